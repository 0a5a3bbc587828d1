import Derived.Test.YtjkjiibhdpcpkaaDoorQRm2
import Derived.Test.YtjkjiibhdpcpkaaDoorQRm9
section
namespace Go.Proofs.YtjkjiibhdpcpkaaDoor.PS
open Go.RowKit Go.Proofs.YtjkjiibhdpcpkaaDoorW.PrintWords Go.Proofs.YtjkjiibhdpcpkaaDoorW.PrintLast
set_option linter.unusedVariables false
set_option linter.unusedSimpArgs false
theorem ldg48_ {P : Program} {ops : Array Oper} {rest : List Oper} {o : Oper} {a : Act} {Q : Exit → Act → World → Prop} {W : World} {t : TypeId} {b : Tmp} {g : Nat} {cs : Array Value} {d : TypeDesc} (hu : P.underlying t = some d) (ho : o.op = .load t (.tmp b)) (hw : Region.wanted o (yielded ops a.tmps) = true)
  (hx : a.eval (.tmp b) = .pointer (some ⟨g, 0, none⟩)) (hb : W.heap[g]? = some (.cells cs t (0, 0))) (hd : (match d with | .struct _ | .array _ _ => true | _ => false) = true) (hi : (P.info? t).map (·.size) = some cs.size)
  (h : wpList P ops Q rest (a.put o.dst (.agg cs)) W) : wpList P ops Q (o :: rest) a W := by
  refine BigFrame.wpList_want hw fun K hK => ?_
  have hl := ld_of_cells (P := P) (w := W) (g := g) (t := t) cs.toList (fun j v hv => by rw [cell_of_row W g j cs t (0, 0) hb]; simpa using hv) hu hd (by simpa using hi)
  have hr : (execOp a.eval o).run P W = .ok (.value (.agg cs)) W := ldx_ ho hx (by simpa using hl)
  unfold Oper.wp
  rw [hr]
  exact hK _ _ h
mutual
def corebankref34_ranged.j0 : Nat → Bool → Int → Int → Int → Int → Int → Int → Int → Int → Int → Int → Int → Int → Int → Int → Int → Int → Int → Int → Int → Int → Int → ByteArray → ByteArray → List (S54) → List (S50) → Option (Bool)
 | 0, _, _, _, _, _, _, _, _, _, _, _, _, _, _, _, _, _, _, _, _, _, _, _, _, _, _ => none
 | k + 1, x37, x482000, x482001, x482002, x482003, x482004, x482005, x482006, x482007, x482008, x482009, x482010, x482011, x482012, x482013, x482014, x482015, x482016, x482017, x482018, x482019, x482020, x482021, x482022, x482023, x482024 => if x37 = true then (some false) else ((corebankref34_within.f x482005 1000000000000).bind fun t482 => (if t482 = true then ((corebankref34_within.f x482006 1000000000000).bind fun t483 => (if t483 = true then ((corebankref34_within.f x482008 1000000000000).bind fun t484 => (if t484 = true then ((corebankref34_within.f x482009 1000000000000).bind fun t485 => (if t485 = true then ((corebankref04_Valid.f x482007).bind fun t486 => (if t486 = true then ((corebankref34_within.f x482019 1000000).bind fun t487 => (if t487 = true then ((corebankref34_within.f x482020 1000000).bind fun t488 => (corebankref34_ranged.j1 k (!t488) x482000 x482001 x482002 x482003 x482004 x482005 x482006 x482007 x482008 x482009 x482010 x482011 x482012 x482013 x482014 x482015 x482016 x482017 x482018 x482019 x482020 x482021 x482022 x482023 x482024)) else (corebankref34_ranged.j1 k true x482000 x482001 x482002 x482003 x482004 x482005 x482006 x482007 x482008 x482009 x482010 x482011 x482012 x482013 x482014 x482015 x482016 x482017 x482018 x482019 x482020 x482021 x482022 x482023 x482024))) else (corebankref34_ranged.j1 k true x482000 x482001 x482002 x482003 x482004 x482005 x482006 x482007 x482008 x482009 x482010 x482011 x482012 x482013 x482014 x482015 x482016 x482017 x482018 x482019 x482020 x482021 x482022 x482023 x482024))) else (corebankref34_ranged.j1 k true x482000 x482001 x482002 x482003 x482004 x482005 x482006 x482007 x482008 x482009 x482010 x482011 x482012 x482013 x482014 x482015 x482016 x482017 x482018 x482019 x482020 x482021 x482022 x482023 x482024))) else (corebankref34_ranged.j1 k true x482000 x482001 x482002 x482003 x482004 x482005 x482006 x482007 x482008 x482009 x482010 x482011 x482012 x482013 x482014 x482015 x482016 x482017 x482018 x482019 x482020 x482021 x482022 x482023 x482024))) else (corebankref34_ranged.j1 k true x482000 x482001 x482002 x482003 x482004 x482005 x482006 x482007 x482008 x482009 x482010 x482011 x482012 x482013 x482014 x482015 x482016 x482017 x482018 x482019 x482020 x482021 x482022 x482023 x482024))) else (corebankref34_ranged.j1 k true x482000 x482001 x482002 x482003 x482004 x482005 x482006 x482007 x482008 x482009 x482010 x482011 x482012 x482013 x482014 x482015 x482016 x482017 x482018 x482019 x482020 x482021 x482022 x482023 x482024)))
def corebankref34_ranged.j1 : Nat → Bool → Int → Int → Int → Int → Int → Int → Int → Int → Int → Int → Int → Int → Int → Int → Int → Int → Int → Int → Int → Int → Int → ByteArray → ByteArray → List (S54) → List (S50) → Option (Bool)
 | 0, _, _, _, _, _, _, _, _, _, _, _, _, _, _, _, _, _, _, _, _, _, _, _, _, _, _ => none
 | k + 1, x79, x482000, x482001, x482002, x482003, x482004, x482005, x482006, x482007, x482008, x482009, x482010, x482011, x482012, x482013, x482014, x482015, x482016, x482017, x482018, x482019, x482020, x482021, x482022, x482023, x482024 => if x79 = true then (some false) else (if (x482023.length : Int) < 1 then (corebankref34_ranged.j2 k true x482000 x482001 x482002 x482003 x482004 x482005 x482006 x482007 x482008 x482009 x482010 x482011 x482012 x482013 x482014 x482015 x482016 x482017 x482018 x482019 x482020 x482021 x482022 x482023 x482024) else (if (x482023.length : Int) > 240 then (corebankref34_ranged.j2 k true x482000 x482001 x482002 x482003 x482004 x482005 x482006 x482007 x482008 x482009 x482010 x482011 x482012 x482013 x482014 x482015 x482016 x482017 x482018 x482019 x482020 x482021 x482022 x482023 x482024) else (corebankref34_ranged.j2 k (decide ((x482024.length : Int) > 64)) x482000 x482001 x482002 x482003 x482004 x482005 x482006 x482007 x482008 x482009 x482010 x482011 x482012 x482013 x482014 x482015 x482016 x482017 x482018 x482019 x482020 x482021 x482022 x482023 x482024)))
def corebankref34_ranged.j2 : Nat → Bool → Int → Int → Int → Int → Int → Int → Int → Int → Int → Int → Int → Int → Int → Int → Int → Int → Int → Int → Int → Int → Int → ByteArray → ByteArray → List (S54) → List (S50) → Option (Bool)
 | 0, _, _, _, _, _, _, _, _, _, _, _, _, _, _, _, _, _, _, _, _, _, _, _, _, _, _ => none
 | k + 1, x95, x482000, x482001, x482002, x482003, x482004, x482005, x482006, x482007, x482008, x482009, x482010, x482011, x482012, x482013, x482014, x482015, x482016, x482017, x482018, x482019, x482020, x482021, x482022, x482023, x482024 => if x95 = true then (some false) else (corebankref34_ranged.l0 k 0 x482000 x482001 x482002 x482003 x482004 x482005 x482006 x482007 x482008 x482009 x482010 x482011 x482012 x482013 x482014 x482015 x482016 x482017 x482018 x482019 x482020 x482021 x482022 x482023 x482024)
def corebankref34_ranged.l0 : Nat → Int → Int → Int → Int → Int → Int → Int → Int → Int → Int → Int → Int → Int → Int → Int → Int → Int → Int → Int → Int → Int → Int → ByteArray → ByteArray → List (S54) → List (S50) → Option (Bool)
 | 0, _, _, _, _, _, _, _, _, _, _, _, _, _, _, _, _, _, _, _, _, _, _, _, _, _, _ => none
 | k + 1, x3, x482000, x482001, x482002, x482003, x482004, x482005, x482006, x482007, x482008, x482009, x482010, x482011, x482012, x482013, x482014, x482015, x482016, x482017, x482018, x482019, x482020, x482021, x482022, x482023, x482024 => if x3 < (x482023.length : Int) then (if 0 ≤ x3 then ((corebankref04_Valid.f ((rd_T54 x482023 x3).f1)).bind fun t491 => (if t491 = true then ((corebankref34_within.f ((rd_T54 x482023 x3).f2) 1000000000000).bind fun t492 => (if t492 = true then ((corebankref34_within.f ((rd_T54 x482023 x3).f3) 1000000000000).bind fun t493 => (corebankref34_ranged.j4 k x3 (!t493) x482000 x482001 x482002 x482003 x482004 x482005 x482006 x482007 x482008 x482009 x482010 x482011 x482012 x482013 x482014 x482015 x482016 x482017 x482018 x482019 x482020 x482021 x482022 x482023 x482024)) else (corebankref34_ranged.j4 k x3 true x482000 x482001 x482002 x482003 x482004 x482005 x482006 x482007 x482008 x482009 x482010 x482011 x482012 x482013 x482014 x482015 x482016 x482017 x482018 x482019 x482020 x482021 x482022 x482023 x482024))) else (corebankref34_ranged.j4 k x3 true x482000 x482001 x482002 x482003 x482004 x482005 x482006 x482007 x482008 x482009 x482010 x482011 x482012 x482013 x482014 x482015 x482016 x482017 x482018 x482019 x482020 x482021 x482022 x482023 x482024))) else (none)) else (some true)
def corebankref34_ranged.j4 : Nat → Int → Bool → Int → Int → Int → Int → Int → Int → Int → Int → Int → Int → Int → Int → Int → Int → Int → Int → Int → Int → Int → Int → Int → ByteArray → ByteArray → List (S54) → List (S50) → Option (Bool)
 | 0, _, _, _, _, _, _, _, _, _, _, _, _, _, _, _, _, _, _, _, _, _, _, _, _, _, _, _ => none
 | k + 1, x3, x123, x482000, x482001, x482002, x482003, x482004, x482005, x482006, x482007, x482008, x482009, x482010, x482011, x482012, x482013, x482014, x482015, x482016, x482017, x482018, x482019, x482020, x482021, x482022, x482023, x482024 => if x123 = true then (some false) else (corebankref34_ranged.l0 k (wrap64 (x3 + 1)) x482000 x482001 x482002 x482003 x482004 x482005 x482006 x482007 x482008 x482009 x482010 x482011 x482012 x482013 x482014 x482015 x482016 x482017 x482018 x482019 x482020 x482021 x482022 x482023 x482024)
end
def corebankref34_ranged.f (k : Nat) (a0_0 a0_1 a0_2 a0_3 a0_4 a0_5 a0_6 a0_7 a0_8 a0_9 a0_10 a0_11 a0_12 a0_13 a0_14 a0_15 a0_16 a0_17 a0_18 a0_19 a0_20 : Int) (a0_21 a0_22 : ByteArray) (l0_23 : List (S54)) (l0_24 : List (S50)) : Option (Bool) := if a0_0 < 1 then (corebankref34_ranged.j0 k true a0_0 a0_1 a0_2 a0_3 a0_4 a0_5 a0_6 a0_7 a0_8 a0_9 a0_10 a0_11 a0_12 a0_13 a0_14 a0_15 a0_16 a0_17 a0_18 a0_19 a0_20 a0_21 a0_22 l0_23 l0_24) else (if a0_1 < 1000 then (corebankref34_ranged.j0 k true a0_0 a0_1 a0_2 a0_3 a0_4 a0_5 a0_6 a0_7 a0_8 a0_9 a0_10 a0_11 a0_12 a0_13 a0_14 a0_15 a0_16 a0_17 a0_18 a0_19 a0_20 a0_21 a0_22 l0_23 l0_24) else (if a0_2 < 1 then (corebankref34_ranged.j0 k true a0_0 a0_1 a0_2 a0_3 a0_4 a0_5 a0_6 a0_7 a0_8 a0_9 a0_10 a0_11 a0_12 a0_13 a0_14 a0_15 a0_16 a0_17 a0_18 a0_19 a0_20 a0_21 a0_22 l0_23 l0_24) else (if a0_2 > 3 then (corebankref34_ranged.j0 k true a0_0 a0_1 a0_2 a0_3 a0_4 a0_5 a0_6 a0_7 a0_8 a0_9 a0_10 a0_11 a0_12 a0_13 a0_14 a0_15 a0_16 a0_17 a0_18 a0_19 a0_20 a0_21 a0_22 l0_23 l0_24) else (if a0_3 < 0 then (corebankref34_ranged.j0 k true a0_0 a0_1 a0_2 a0_3 a0_4 a0_5 a0_6 a0_7 a0_8 a0_9 a0_10 a0_11 a0_12 a0_13 a0_14 a0_15 a0_16 a0_17 a0_18 a0_19 a0_20 a0_21 a0_22 l0_23 l0_24) else (if a0_4 < 0 then (corebankref34_ranged.j0 k true a0_0 a0_1 a0_2 a0_3 a0_4 a0_5 a0_6 a0_7 a0_8 a0_9 a0_10 a0_11 a0_12 a0_13 a0_14 a0_15 a0_16 a0_17 a0_18 a0_19 a0_20 a0_21 a0_22 l0_23 l0_24) else (corebankref34_ranged.j0 k (decide (a0_10 < 0)) a0_0 a0_1 a0_2 a0_3 a0_4 a0_5 a0_6 a0_7 a0_8 a0_9 a0_10 a0_11 a0_12 a0_13 a0_14 a0_15 a0_16 a0_17 a0_18 a0_19 a0_20 a0_21 a0_22 l0_23 l0_24))))))
set_option maxHeartbeats 8000000 in
set_option maxRecDepth 100000 in
theorem corebankref34_ranged.calls (k : Nat) (a0_0 a0_1 a0_2 a0_3 a0_4 a0_5 a0_6 a0_7 a0_8 a0_9 a0_10 a0_11 a0_12 a0_13 a0_14 a0_15 a0_16 a0_17 a0_18 a0_19 a0_20 : Int) (a0_21 a0_22 : ByteArray) (A0_23 : Option Addr) (c0_23 : Nat) (l0_23 : List (S54)) (A0_24 : Option Addr) (c0_24 : Nat) (l0_24 : List (S50)) (r : Bool) (w : World) (hr0_23 : Kd.C k54 w A0_23 l0_23.length l0_23) (hc0_23 : l0_23.length ≤ c0_23) (hr0_24 : Kd.C k50 w A0_24 l0_24.length l0_24) (hc0_24 : l0_24.length ≤ c0_24) (h : corebankref34_ranged.f k a0_0 a0_1 a0_2 a0_3 a0_4 a0_5 a0_6 a0_7 a0_8 a0_9 a0_10 a0_11 a0_12 a0_13 a0_14 a0_15 a0_16 a0_17 a0_18 a0_19 a0_20 a0_21 a0_22 l0_23 l0_24 = some r) :
  Calls Tryd.prog 37 #[.agg #[.int .i64 a0_0, .int .i64 a0_1, .int .i64 a0_2, .int .i64 a0_3, .int .i64 a0_4, .int .i64 a0_5, .int .i64 a0_6, .int .i64 a0_7, .int .i64 a0_8, .int .i64 a0_9, .int .i64 a0_10, .int .i64 a0_11, .int .i64 a0_12, .int .i64 a0_13, .int .i64 a0_14, .int .i64 a0_15, .int .i64 a0_16, .int .i64 a0_17, .int .i64 a0_18, .int .i64 a0_19, .int .i64 a0_20, .string a0_21, .string a0_22, .slice A0_23 l0_23.length c0_23, .slice A0_24 l0_24.length c0_24]] w fun e w' => e = .returned (.bool r) ∧ Below w.heap.size w w' := by
 have hu27 := Tryd.underlying27
 have hu54 := Tryd.underlying54
 have HR0_23 := Aside0.mk hr0_23
 have HC0_23 := Aside0.mk hc0_23
 clear hr0_23 hc0_23
 have HR0_24 := Aside0.mk hr0_24
 have HC0_24 := Aside0.mk hc0_24
 clear hr0_24 hc0_24
 have HB := Aside0.mk (Below.refl w.heap.size w)
 have H : (if a0_0 < 1 then (corebankref34_ranged.j0 k true a0_0 a0_1 a0_2 a0_3 a0_4 a0_5 a0_6 a0_7 a0_8 a0_9 a0_10 a0_11 a0_12 a0_13 a0_14 a0_15 a0_16 a0_17 a0_18 a0_19 a0_20 a0_21 a0_22 l0_23 l0_24) else (if a0_1 < 1000 then (corebankref34_ranged.j0 k true a0_0 a0_1 a0_2 a0_3 a0_4 a0_5 a0_6 a0_7 a0_8 a0_9 a0_10 a0_11 a0_12 a0_13 a0_14 a0_15 a0_16 a0_17 a0_18 a0_19 a0_20 a0_21 a0_22 l0_23 l0_24) else (if a0_2 < 1 then (corebankref34_ranged.j0 k true a0_0 a0_1 a0_2 a0_3 a0_4 a0_5 a0_6 a0_7 a0_8 a0_9 a0_10 a0_11 a0_12 a0_13 a0_14 a0_15 a0_16 a0_17 a0_18 a0_19 a0_20 a0_21 a0_22 l0_23 l0_24) else (if a0_2 > 3 then (corebankref34_ranged.j0 k true a0_0 a0_1 a0_2 a0_3 a0_4 a0_5 a0_6 a0_7 a0_8 a0_9 a0_10 a0_11 a0_12 a0_13 a0_14 a0_15 a0_16 a0_17 a0_18 a0_19 a0_20 a0_21 a0_22 l0_23 l0_24) else (if a0_3 < 0 then (corebankref34_ranged.j0 k true a0_0 a0_1 a0_2 a0_3 a0_4 a0_5 a0_6 a0_7 a0_8 a0_9 a0_10 a0_11 a0_12 a0_13 a0_14 a0_15 a0_16 a0_17 a0_18 a0_19 a0_20 a0_21 a0_22 l0_23 l0_24) else (if a0_4 < 0 then (corebankref34_ranged.j0 k true a0_0 a0_1 a0_2 a0_3 a0_4 a0_5 a0_6 a0_7 a0_8 a0_9 a0_10 a0_11 a0_12 a0_13 a0_14 a0_15 a0_16 a0_17 a0_18 a0_19 a0_20 a0_21 a0_22 l0_23 l0_24) else (corebankref34_ranged.j0 k (decide (a0_10 < 0)) a0_0 a0_1 a0_2 a0_3 a0_4 a0_5 a0_6 a0_7 a0_8 a0_9 a0_10 a0_11 a0_12 a0_13 a0_14 a0_15 a0_16 a0_17 a0_18 a0_19 a0_20 a0_21 a0_22 l0_23 l0_24))))))) = some r := h
 clear h
 have HC2 := Aside0.mk H
 clear H
 go_enter Tryd.func37, Tryd.ntmps37
 go_upto_region 1 with (first | ((with_reducible refine gate_load_ (t := 27) rfl ?_); refine ld_ (t := 27) Tryd.underlying27 rfl rfl rfl (by (repeat (first | (with_reducible first | refine blk_drewN ?_ _ | refine blk_drew ?_ | refine blk_alloc ?_ _) | refine blk_far ?_ NB481_490.out _ | refine blk_set ?_ _ _)); (with_reducible first | exact BK481.out)) rfl (by kernel_rfl) ?_) | ((with_reducible refine gate_load_ (t := 27) rfl ?_); refine ldg48_ (t := 27) Tryd.underlying27 rfl (by rfl) rfl (by (repeat (first | (with_reducible first | refine blk_drewN ?_ _ | refine blk_drew ?_ | refine blk_alloc ?_ _) | refine blk_far ?_ NB481_490.out _ | refine blk_set ?_ _ _)); (with_reducible first | exact BK481.out)) rfl (by kernel_rfl) ?_) | ((with_reducible refine gate_dst (N := 1) rfl ?_); (try (refine gate_guard (by rfl) ?_; dsimp only)); refine be_ (N := 1) (cs := #[.int .i64 a0_0, .int .i64 a0_1, .int .i64 a0_2, .int .i64 a0_3, .int .i64 a0_4, .int .i64 a0_5, .int .i64 a0_6, .int .i64 a0_7, .int .i64 a0_8, .int .i64 a0_9, .int .i64 a0_10, .int .i64 a0_11, .int .i64 a0_12, .int .i64 a0_13, .int .i64 a0_14, .int .i64 a0_15, .int .i64 a0_16, .int .i64 a0_17, .int .i64 a0_18, .int .i64 a0_19, .int .i64 a0_20, .string a0_21, .string a0_22, .slice A0_23 l0_23.length c0_23, .slice A0_24 l0_24.length c0_24]) (t := 27) ?_; intro gb481 hg w3 hbox hb; have n0_ := Aside0.mk (below_step (qb_ HB.out) hb); have n1_ := Aside0.mk (hbox); have n2_ := Aside0.mk (bz_ hg (qb_ HB.out) : w.heap.size ≤ gb481); have n3_ := n2_; clear HB; have HB := n0_; have BK481 := n1_; have GW481 := n2_; have GE481 := n3_; clear n0_ n1_ n2_ n3_; clear hb hbox hg))
 (try simp only [Act.put, List.setIfInBounds_toArray, List.set_cons_zero, List.set_cons_succ])
 go_cut [37] (fun v37 wc => ∃ (kq : Nat) (x37_1 : Bool), v37 = .bool x37_1 ∧ Aside0 (corebankref34_ranged.j0 kq x37_1 a0_0 a0_1 a0_2 a0_3 a0_4 a0_5 a0_6 a0_7 a0_8 a0_9 a0_10 a0_11 a0_12 a0_13 a0_14 a0_15 a0_16 a0_17 a0_18 a0_19 a0_20 a0_21 a0_22 l0_23 l0_24 = some r) ∧ Aside0 (kq ≤ k) ∧ Aside0 (wc.heap[gb481]? = some (.cells #[.int .i64 a0_0, .int .i64 a0_1, .int .i64 a0_2, .int .i64 a0_3, .int .i64 a0_4, .int .i64 a0_5, .int .i64 a0_6, .int .i64 a0_7, .int .i64 a0_8, .int .i64 a0_9, .int .i64 a0_10, .int .i64 a0_11, .int .i64 a0_12, .int .i64 a0_13, .int .i64 a0_14, .int .i64 a0_15, .int .i64 a0_16, .int .i64 a0_17, .int .i64 a0_18, .int .i64 a0_19, .int .i64 a0_20, .string a0_21, .string a0_22, (.slice A0_23 l0_23.length c0_23), (.slice A0_24 l0_24.length c0_24)] 27 (0, 0))) ∧ Aside0 (Below w.heap.size w wc))
 case first =>
  have H := HC2.out
  clear HC2
  by_cases c4 : a0_0 < 1
  ·rw [if_pos c4] at H
   have c4b0 : decide (a0_0 < 1) = true := decide_eq_true c4
   clear c4
   (first | rw [c4b0] | (simp only [i64_w, i32_w]; rw [c4b0]) | skip)
   have H' := Aside0.mk H
   clear H
   obtain ⟨Z5_0, Z5_1, Z5_2, Z5_3, Z5_4, Z5_5, Z5_6, Z5_7, Z5_8, Z5_9, Z5_10, Z5_11, Z5_12, Z5_13, Z5_14, Z5_15, Z5_16, Z5_17, Z5_18, Z5_19, Z5_20, Z5_21, Z5_22, Z5_23, Z5_24, Y5_0, Y5_1, Y5_2, Y5_3, Y5_4, Y5_5, Y5_6, Y5_7, Y5_8, Y5_9, Y5_10, Y5_11, Y5_12, Y5_13, Y5_14, Y5_15, Y5_16, Y5_17, Y5_18, Y5_19, Y5_20, Y5_21, Y5_22, Y5_23, Y5_24⟩ := cz25_ BK481.out
   go_wp2
   go_meet
   case rel => exact ⟨_, (true), qs_, H', ⟨qo_⟩, ⟨qk_ BK481.out⟩, ⟨qb1_ GE481.out HB.out⟩⟩
  ·rw [if_neg c4] at H
   have c4b0 : decide (a0_0 < 1) = false := decide_eq_false c4
   clear c4
   (first | rw [c4b0] | (simp only [i64_w, i32_w]; rw [c4b0]) | skip)
   by_cases c6 : a0_1 < 1000
   ·rw [if_pos c6] at H
    have c6b0 : decide (a0_1 < 1000) = true := decide_eq_true c6
    clear c6
    have H' := Aside0.mk H
    clear H
    obtain ⟨Z7_0, Z7_1, Z7_2, Z7_3, Z7_4, Z7_5, Z7_6, Z7_7, Z7_8, Z7_9, Z7_10, Z7_11, Z7_12, Z7_13, Z7_14, Z7_15, Z7_16, Z7_17, Z7_18, Z7_19, Z7_20, Z7_21, Z7_22, Z7_23, Z7_24, Y7_0, Y7_1, Y7_2, Y7_3, Y7_4, Y7_5, Y7_6, Y7_7, Y7_8, Y7_9, Y7_10, Y7_11, Y7_12, Y7_13, Y7_14, Y7_15, Y7_16, Y7_17, Y7_18, Y7_19, Y7_20, Y7_21, Y7_22, Y7_23, Y7_24⟩ := cz25_ BK481.out
    go_wp2
    go_meet
    case rel => exact ⟨_, (true), qs_, H', ⟨qo_⟩, ⟨qk_ BK481.out⟩, ⟨qb1_ GE481.out HB.out⟩⟩
   ·rw [if_neg c6] at H
    have c6b0 : decide (a0_1 < 1000) = false := decide_eq_false c6
    clear c6
    by_cases c8 : a0_2 < 1
    ·rw [if_pos c8] at H
     have c8b0 : decide (a0_2 < 1) = true := decide_eq_true c8
     clear c8
     have H' := Aside0.mk H
     clear H
     obtain ⟨Z9_0, Z9_1, Z9_2, Z9_3, Z9_4, Z9_5, Z9_6, Z9_7, Z9_8, Z9_9, Z9_10, Z9_11, Z9_12, Z9_13, Z9_14, Z9_15, Z9_16, Z9_17, Z9_18, Z9_19, Z9_20, Z9_21, Z9_22, Z9_23, Z9_24, Y9_0, Y9_1, Y9_2, Y9_3, Y9_4, Y9_5, Y9_6, Y9_7, Y9_8, Y9_9, Y9_10, Y9_11, Y9_12, Y9_13, Y9_14, Y9_15, Y9_16, Y9_17, Y9_18, Y9_19, Y9_20, Y9_21, Y9_22, Y9_23, Y9_24⟩ := cz25_ BK481.out
     go_wp2
     go_meet
     case rel => exact ⟨_, (true), qs_, H', ⟨qo_⟩, ⟨qk_ BK481.out⟩, ⟨qb1_ GE481.out HB.out⟩⟩
    ·rw [if_neg c8] at H
     have c8b0 : decide (a0_2 < 1) = false := decide_eq_false c8
     clear c8
     by_cases c10 : a0_2 > 3
     ·rw [if_pos c10] at H
      have c10b0 : decide (3 < a0_2) = true := decide_eq_true c10
      clear c10
      have H' := Aside0.mk H
      clear H
      obtain ⟨Z11_0, Z11_1, Z11_2, Z11_3, Z11_4, Z11_5, Z11_6, Z11_7, Z11_8, Z11_9, Z11_10, Z11_11, Z11_12, Z11_13, Z11_14, Z11_15, Z11_16, Z11_17, Z11_18, Z11_19, Z11_20, Z11_21, Z11_22, Z11_23, Z11_24, Y11_0, Y11_1, Y11_2, Y11_3, Y11_4, Y11_5, Y11_6, Y11_7, Y11_8, Y11_9, Y11_10, Y11_11, Y11_12, Y11_13, Y11_14, Y11_15, Y11_16, Y11_17, Y11_18, Y11_19, Y11_20, Y11_21, Y11_22, Y11_23, Y11_24⟩ := cz25_ BK481.out
      go_wp2
      go_meet
      case rel => exact ⟨_, (true), qs_, H', ⟨qo_⟩, ⟨qk_ BK481.out⟩, ⟨qb1_ GE481.out HB.out⟩⟩
     ·rw [if_neg c10] at H
      have c10b0 : decide (3 < a0_2) = false := decide_eq_false c10
      clear c10
      by_cases c12 : a0_3 < 0
      ·rw [if_pos c12] at H
       have c12b0 : decide (a0_3 < 0) = true := decide_eq_true c12
       clear c12
       have H' := Aside0.mk H
       clear H
       obtain ⟨Z13_0, Z13_1, Z13_2, Z13_3, Z13_4, Z13_5, Z13_6, Z13_7, Z13_8, Z13_9, Z13_10, Z13_11, Z13_12, Z13_13, Z13_14, Z13_15, Z13_16, Z13_17, Z13_18, Z13_19, Z13_20, Z13_21, Z13_22, Z13_23, Z13_24, Y13_0, Y13_1, Y13_2, Y13_3, Y13_4, Y13_5, Y13_6, Y13_7, Y13_8, Y13_9, Y13_10, Y13_11, Y13_12, Y13_13, Y13_14, Y13_15, Y13_16, Y13_17, Y13_18, Y13_19, Y13_20, Y13_21, Y13_22, Y13_23, Y13_24⟩ := cz25_ BK481.out
       go_wp2
       go_meet
       case rel => exact ⟨_, (true), qs_, H', ⟨qo_⟩, ⟨qk_ BK481.out⟩, ⟨qb1_ GE481.out HB.out⟩⟩
      ·rw [if_neg c12] at H
       have c12b0 : decide (a0_3 < 0) = false := decide_eq_false c12
       clear c12
       by_cases c14 : a0_4 < 0
       ·rw [if_pos c14] at H
        have c14b0 : decide (a0_4 < 0) = true := decide_eq_true c14
        clear c14
        have H' := Aside0.mk H
        clear H
        obtain ⟨Z15_0, Z15_1, Z15_2, Z15_3, Z15_4, Z15_5, Z15_6, Z15_7, Z15_8, Z15_9, Z15_10, Z15_11, Z15_12, Z15_13, Z15_14, Z15_15, Z15_16, Z15_17, Z15_18, Z15_19, Z15_20, Z15_21, Z15_22, Z15_23, Z15_24, Y15_0, Y15_1, Y15_2, Y15_3, Y15_4, Y15_5, Y15_6, Y15_7, Y15_8, Y15_9, Y15_10, Y15_11, Y15_12, Y15_13, Y15_14, Y15_15, Y15_16, Y15_17, Y15_18, Y15_19, Y15_20, Y15_21, Y15_22, Y15_23, Y15_24⟩ := cz25_ BK481.out
        go_wp2
        go_meet
        case rel => exact ⟨_, (true), qs_, H', ⟨qo_⟩, ⟨qk_ BK481.out⟩, ⟨qb1_ GE481.out HB.out⟩⟩
       ·rw [if_neg c14] at H
        have c14b0 : decide (a0_4 < 0) = false := decide_eq_false c14
        clear c14
        have H' := Aside0.mk H
        clear H
        obtain ⟨Z16_0, Z16_1, Z16_2, Z16_3, Z16_4, Z16_5, Z16_6, Z16_7, Z16_8, Z16_9, Z16_10, Z16_11, Z16_12, Z16_13, Z16_14, Z16_15, Z16_16, Z16_17, Z16_18, Z16_19, Z16_20, Z16_21, Z16_22, Z16_23, Z16_24, Y16_0, Y16_1, Y16_2, Y16_3, Y16_4, Y16_5, Y16_6, Y16_7, Y16_8, Y16_9, Y16_10, Y16_11, Y16_12, Y16_13, Y16_14, Y16_15, Y16_16, Y16_17, Y16_18, Y16_19, Y16_20, Y16_21, Y16_22, Y16_23, Y16_24⟩ := cz25_ BK481.out
        go_wp2
        go_meet
        case rel => exact ⟨_, (decide (a0_10 < 0)), qs_, H', ⟨qo_⟩, ⟨qk_ BK481.out⟩, ⟨qb1_ GE481.out HB.out⟩⟩
 case rest =>
  clear HC2
  try clear c1
  try clear p2
  try clear c3
  try clear c4
  try clear c4b0
  try clear c6
  try clear c6b0
  try clear c8
  try clear c8b0
  try clear c10
  try clear c10b0
  try clear c12
  try clear c12b0
  try clear c14
  try clear c14b0
  (try clear Z11_0 Z11_1 Z11_10 Z11_11 Z11_12 Z11_13 Z11_14 Z11_15 Z11_16 Z11_17 Z11_18 Z11_19 Z11_2 Z11_20 Z11_21 Z11_22 Z11_23 Z11_24 Z11_3 Z11_4 Z11_5 Z11_6 Z11_7 Z11_8 Z11_9 Y11_0 Y11_1 Y11_10 Y11_11 Y11_12 Y11_13 Y11_14 Y11_15 Y11_16 Y11_17 Y11_18 Y11_19 Y11_2 Y11_20 Y11_21 Y11_22 Y11_23 Y11_24 Y11_3 Y11_4 Y11_5 Y11_6 Y11_7 Y11_8 Y11_9)
  (try clear Z13_0 Z13_1 Z13_10 Z13_11 Z13_12 Z13_13 Z13_14 Z13_15 Z13_16 Z13_17 Z13_18 Z13_19 Z13_2 Z13_20 Z13_21 Z13_22 Z13_23 Z13_24 Z13_3 Z13_4 Z13_5 Z13_6 Z13_7 Z13_8 Z13_9 Y13_0 Y13_1 Y13_10 Y13_11 Y13_12 Y13_13 Y13_14 Y13_15 Y13_16 Y13_17 Y13_18 Y13_19 Y13_2 Y13_20 Y13_21 Y13_22 Y13_23 Y13_24 Y13_3 Y13_4 Y13_5 Y13_6 Y13_7 Y13_8 Y13_9)
  (try clear Z15_0 Z15_1 Z15_10 Z15_11 Z15_12 Z15_13 Z15_14 Z15_15 Z15_16 Z15_17 Z15_18 Z15_19 Z15_2 Z15_20 Z15_21 Z15_22 Z15_23 Z15_24 Z15_3 Z15_4 Z15_5 Z15_6 Z15_7 Z15_8 Z15_9 Y15_0 Y15_1 Y15_10 Y15_11 Y15_12 Y15_13 Y15_14 Y15_15 Y15_16 Y15_17 Y15_18 Y15_19 Y15_2 Y15_20 Y15_21 Y15_22 Y15_23 Y15_24 Y15_3 Y15_4 Y15_5 Y15_6 Y15_7 Y15_8 Y15_9)
  (try clear Z16_0 Z16_1 Z16_10 Z16_11 Z16_12 Z16_13 Z16_14 Z16_15 Z16_16 Z16_17 Z16_18 Z16_19 Z16_2 Z16_20 Z16_21 Z16_22 Z16_23 Z16_24 Z16_3 Z16_4 Z16_5 Z16_6 Z16_7 Z16_8 Z16_9 Y16_0 Y16_1 Y16_10 Y16_11 Y16_12 Y16_13 Y16_14 Y16_15 Y16_16 Y16_17 Y16_18 Y16_19 Y16_2 Y16_20 Y16_21 Y16_22 Y16_23 Y16_24 Y16_3 Y16_4 Y16_5 Y16_6 Y16_7 Y16_8 Y16_9)
  (try clear Z5_0 Z5_1 Z5_10 Z5_11 Z5_12 Z5_13 Z5_14 Z5_15 Z5_16 Z5_17 Z5_18 Z5_19 Z5_2 Z5_20 Z5_21 Z5_22 Z5_23 Z5_24 Z5_3 Z5_4 Z5_5 Z5_6 Z5_7 Z5_8 Z5_9 Y5_0 Y5_1 Y5_10 Y5_11 Y5_12 Y5_13 Y5_14 Y5_15 Y5_16 Y5_17 Y5_18 Y5_19 Y5_2 Y5_20 Y5_21 Y5_22 Y5_23 Y5_24 Y5_3 Y5_4 Y5_5 Y5_6 Y5_7 Y5_8 Y5_9)
  (try clear Z7_0 Z7_1 Z7_10 Z7_11 Z7_12 Z7_13 Z7_14 Z7_15 Z7_16 Z7_17 Z7_18 Z7_19 Z7_2 Z7_20 Z7_21 Z7_22 Z7_23 Z7_24 Z7_3 Z7_4 Z7_5 Z7_6 Z7_7 Z7_8 Z7_9 Y7_0 Y7_1 Y7_10 Y7_11 Y7_12 Y7_13 Y7_14 Y7_15 Y7_16 Y7_17 Y7_18 Y7_19 Y7_2 Y7_20 Y7_21 Y7_22 Y7_23 Y7_24 Y7_3 Y7_4 Y7_5 Y7_6 Y7_7 Y7_8 Y7_9)
  (try clear Z9_0 Z9_1 Z9_10 Z9_11 Z9_12 Z9_13 Z9_14 Z9_15 Z9_16 Z9_17 Z9_18 Z9_19 Z9_2 Z9_20 Z9_21 Z9_22 Z9_23 Z9_24 Z9_3 Z9_4 Z9_5 Z9_6 Z9_7 Z9_8 Z9_9 Y9_0 Y9_1 Y9_10 Y9_11 Y9_12 Y9_13 Y9_14 Y9_15 Y9_16 Y9_17 Y9_18 Y9_19 Y9_2 Y9_20 Y9_21 Y9_22 Y9_23 Y9_24 Y9_3 Y9_4 Y9_5 Y9_6 Y9_7 Y9_8 Y9_9)
  obtain ⟨kq, x37_1, rfl, HA, HJ1, BK481, HB⟩ := hcut
  cases kq with
  | zero => exact absurd HA.out (by simp [corebankref34_ranged.j0])
  | succ kj1 =>
   have H := HA.out
   clear HA
   simp only [corebankref34_ranged.j0] at H
   by_cases c17 : x37_1 = true
   ·subst c17
    have H1 : (some false) = some r := by rw [if_pos rfl] at H; exact H
    clear H
    have H := H1
    clear H1
    obtain rfl := Option.some.inj H
    go_wp2
    go_ret
    exact ⟨qe_, qb1_ GE481.out HB.out⟩
   ·replace c17 := Bool.eq_false_iff.mpr c17
    subst c17
    have H1 : ((corebankref34_within.f a0_5 1000000000000).bind fun t482 => (if t482 = true then ((corebankref34_within.f a0_6 1000000000000).bind fun t483 => (if t483 = true then ((corebankref34_within.f a0_8 1000000000000).bind fun t484 => (if t484 = true then ((corebankref34_within.f a0_9 1000000000000).bind fun t485 => (if t485 = true then ((corebankref04_Valid.f a0_7).bind fun t486 => (if t486 = true then ((corebankref34_within.f a0_19 1000000).bind fun t487 => (if t487 = true then ((corebankref34_within.f a0_20 1000000).bind fun t488 => (corebankref34_ranged.j1 kj1 (!t488) a0_0 a0_1 a0_2 a0_3 a0_4 a0_5 a0_6 a0_7 a0_8 a0_9 a0_10 a0_11 a0_12 a0_13 a0_14 a0_15 a0_16 a0_17 a0_18 a0_19 a0_20 a0_21 a0_22 l0_23 l0_24)) else (corebankref34_ranged.j1 kj1 true a0_0 a0_1 a0_2 a0_3 a0_4 a0_5 a0_6 a0_7 a0_8 a0_9 a0_10 a0_11 a0_12 a0_13 a0_14 a0_15 a0_16 a0_17 a0_18 a0_19 a0_20 a0_21 a0_22 l0_23 l0_24))) else (corebankref34_ranged.j1 kj1 true a0_0 a0_1 a0_2 a0_3 a0_4 a0_5 a0_6 a0_7 a0_8 a0_9 a0_10 a0_11 a0_12 a0_13 a0_14 a0_15 a0_16 a0_17 a0_18 a0_19 a0_20 a0_21 a0_22 l0_23 l0_24))) else (corebankref34_ranged.j1 kj1 true a0_0 a0_1 a0_2 a0_3 a0_4 a0_5 a0_6 a0_7 a0_8 a0_9 a0_10 a0_11 a0_12 a0_13 a0_14 a0_15 a0_16 a0_17 a0_18 a0_19 a0_20 a0_21 a0_22 l0_23 l0_24))) else (corebankref34_ranged.j1 kj1 true a0_0 a0_1 a0_2 a0_3 a0_4 a0_5 a0_6 a0_7 a0_8 a0_9 a0_10 a0_11 a0_12 a0_13 a0_14 a0_15 a0_16 a0_17 a0_18 a0_19 a0_20 a0_21 a0_22 l0_23 l0_24))) else (corebankref34_ranged.j1 kj1 true a0_0 a0_1 a0_2 a0_3 a0_4 a0_5 a0_6 a0_7 a0_8 a0_9 a0_10 a0_11 a0_12 a0_13 a0_14 a0_15 a0_16 a0_17 a0_18 a0_19 a0_20 a0_21 a0_22 l0_23 l0_24))) else (corebankref34_ranged.j1 kj1 true a0_0 a0_1 a0_2 a0_3 a0_4 a0_5 a0_6 a0_7 a0_8 a0_9 a0_10 a0_11 a0_12 a0_13 a0_14 a0_15 a0_16 a0_17 a0_18 a0_19 a0_20 a0_21 a0_22 l0_23 l0_24))) = some r := by rw [if_neg (show ¬ (false = true) by decide)] at H; exact H
    clear H
    have H := H1
    clear H1
    have HC18 := Aside0.mk H
    clear H
    go_upto_region 3 with (fail)
    go_cut [79] (fun v79 wc => ∃ (kq : Nat) (x79_17 : Bool), v79 = .bool x79_17 ∧ Aside0 (corebankref34_ranged.j1 kq x79_17 a0_0 a0_1 a0_2 a0_3 a0_4 a0_5 a0_6 a0_7 a0_8 a0_9 a0_10 a0_11 a0_12 a0_13 a0_14 a0_15 a0_16 a0_17 a0_18 a0_19 a0_20 a0_21 a0_22 l0_23 l0_24 = some r) ∧ Aside0 (kq ≤ kj1) ∧ Aside0 (wc.heap[gb481]? = some (.cells #[.int .i64 a0_0, .int .i64 a0_1, .int .i64 a0_2, .int .i64 a0_3, .int .i64 a0_4, .int .i64 a0_5, .int .i64 a0_6, .int .i64 a0_7, .int .i64 a0_8, .int .i64 a0_9, .int .i64 a0_10, .int .i64 a0_11, .int .i64 a0_12, .int .i64 a0_13, .int .i64 a0_14, .int .i64 a0_15, .int .i64 a0_16, .int .i64 a0_17, .int .i64 a0_18, .int .i64 a0_19, .int .i64 a0_20, .string a0_21, .string a0_22, (.slice A0_23 l0_23.length c0_23), (.slice A0_24 l0_24.length c0_24)] 27 (0, 0))) ∧ Aside0 (Below w.heap.size w wc))
    case first =>
     have H := HC18.out
     clear HC18
     replace H := Option.bind_eq_some_iff.mp H
     obtain ⟨t482, A190, H⟩ := H
     replace H : (if t482 = true then ((corebankref34_within.f a0_6 1000000000000).bind fun t483 => (if t483 = true then ((corebankref34_within.f a0_8 1000000000000).bind fun t484 => (if t484 = true then ((corebankref34_within.f a0_9 1000000000000).bind fun t485 => (if t485 = true then ((corebankref04_Valid.f a0_7).bind fun t486 => (if t486 = true then ((corebankref34_within.f a0_19 1000000).bind fun t487 => (if t487 = true then ((corebankref34_within.f a0_20 1000000).bind fun t488 => (corebankref34_ranged.j1 kj1 (!t488) a0_0 a0_1 a0_2 a0_3 a0_4 a0_5 a0_6 a0_7 a0_8 a0_9 a0_10 a0_11 a0_12 a0_13 a0_14 a0_15 a0_16 a0_17 a0_18 a0_19 a0_20 a0_21 a0_22 l0_23 l0_24)) else (corebankref34_ranged.j1 kj1 true a0_0 a0_1 a0_2 a0_3 a0_4 a0_5 a0_6 a0_7 a0_8 a0_9 a0_10 a0_11 a0_12 a0_13 a0_14 a0_15 a0_16 a0_17 a0_18 a0_19 a0_20 a0_21 a0_22 l0_23 l0_24))) else (corebankref34_ranged.j1 kj1 true a0_0 a0_1 a0_2 a0_3 a0_4 a0_5 a0_6 a0_7 a0_8 a0_9 a0_10 a0_11 a0_12 a0_13 a0_14 a0_15 a0_16 a0_17 a0_18 a0_19 a0_20 a0_21 a0_22 l0_23 l0_24))) else (corebankref34_ranged.j1 kj1 true a0_0 a0_1 a0_2 a0_3 a0_4 a0_5 a0_6 a0_7 a0_8 a0_9 a0_10 a0_11 a0_12 a0_13 a0_14 a0_15 a0_16 a0_17 a0_18 a0_19 a0_20 a0_21 a0_22 l0_23 l0_24))) else (corebankref34_ranged.j1 kj1 true a0_0 a0_1 a0_2 a0_3 a0_4 a0_5 a0_6 a0_7 a0_8 a0_9 a0_10 a0_11 a0_12 a0_13 a0_14 a0_15 a0_16 a0_17 a0_18 a0_19 a0_20 a0_21 a0_22 l0_23 l0_24))) else (corebankref34_ranged.j1 kj1 true a0_0 a0_1 a0_2 a0_3 a0_4 a0_5 a0_6 a0_7 a0_8 a0_9 a0_10 a0_11 a0_12 a0_13 a0_14 a0_15 a0_16 a0_17 a0_18 a0_19 a0_20 a0_21 a0_22 l0_23 l0_24))) else (corebankref34_ranged.j1 kj1 true a0_0 a0_1 a0_2 a0_3 a0_4 a0_5 a0_6 a0_7 a0_8 a0_9 a0_10 a0_11 a0_12 a0_13 a0_14 a0_15 a0_16 a0_17 a0_18 a0_19 a0_20 a0_21 a0_22 l0_23 l0_24)) = some r := H
     have A19 := Aside0.mk A190
     clear A190
     by_cases c20 : t482 = true
     ·subst c20
      have H1 : ((corebankref34_within.f a0_6 1000000000000).bind fun t483 => (if t483 = true then ((corebankref34_within.f a0_8 1000000000000).bind fun t484 => (if t484 = true then ((corebankref34_within.f a0_9 1000000000000).bind fun t485 => (if t485 = true then ((corebankref04_Valid.f a0_7).bind fun t486 => (if t486 = true then ((corebankref34_within.f a0_19 1000000).bind fun t487 => (if t487 = true then ((corebankref34_within.f a0_20 1000000).bind fun t488 => (corebankref34_ranged.j1 kj1 (!t488) a0_0 a0_1 a0_2 a0_3 a0_4 a0_5 a0_6 a0_7 a0_8 a0_9 a0_10 a0_11 a0_12 a0_13 a0_14 a0_15 a0_16 a0_17 a0_18 a0_19 a0_20 a0_21 a0_22 l0_23 l0_24)) else (corebankref34_ranged.j1 kj1 true a0_0 a0_1 a0_2 a0_3 a0_4 a0_5 a0_6 a0_7 a0_8 a0_9 a0_10 a0_11 a0_12 a0_13 a0_14 a0_15 a0_16 a0_17 a0_18 a0_19 a0_20 a0_21 a0_22 l0_23 l0_24))) else (corebankref34_ranged.j1 kj1 true a0_0 a0_1 a0_2 a0_3 a0_4 a0_5 a0_6 a0_7 a0_8 a0_9 a0_10 a0_11 a0_12 a0_13 a0_14 a0_15 a0_16 a0_17 a0_18 a0_19 a0_20 a0_21 a0_22 l0_23 l0_24))) else (corebankref34_ranged.j1 kj1 true a0_0 a0_1 a0_2 a0_3 a0_4 a0_5 a0_6 a0_7 a0_8 a0_9 a0_10 a0_11 a0_12 a0_13 a0_14 a0_15 a0_16 a0_17 a0_18 a0_19 a0_20 a0_21 a0_22 l0_23 l0_24))) else (corebankref34_ranged.j1 kj1 true a0_0 a0_1 a0_2 a0_3 a0_4 a0_5 a0_6 a0_7 a0_8 a0_9 a0_10 a0_11 a0_12 a0_13 a0_14 a0_15 a0_16 a0_17 a0_18 a0_19 a0_20 a0_21 a0_22 l0_23 l0_24))) else (corebankref34_ranged.j1 kj1 true a0_0 a0_1 a0_2 a0_3 a0_4 a0_5 a0_6 a0_7 a0_8 a0_9 a0_10 a0_11 a0_12 a0_13 a0_14 a0_15 a0_16 a0_17 a0_18 a0_19 a0_20 a0_21 a0_22 l0_23 l0_24))) = some r := by rw [if_pos rfl] at H; exact H
      clear H
      have H := H1
      clear H1
      replace H := Option.bind_eq_some_iff.mp H
      obtain ⟨t483, A210, H⟩ := H
      replace H : (if t483 = true then ((corebankref34_within.f a0_8 1000000000000).bind fun t484 => (if t484 = true then ((corebankref34_within.f a0_9 1000000000000).bind fun t485 => (if t485 = true then ((corebankref04_Valid.f a0_7).bind fun t486 => (if t486 = true then ((corebankref34_within.f a0_19 1000000).bind fun t487 => (if t487 = true then ((corebankref34_within.f a0_20 1000000).bind fun t488 => (corebankref34_ranged.j1 kj1 (!t488) a0_0 a0_1 a0_2 a0_3 a0_4 a0_5 a0_6 a0_7 a0_8 a0_9 a0_10 a0_11 a0_12 a0_13 a0_14 a0_15 a0_16 a0_17 a0_18 a0_19 a0_20 a0_21 a0_22 l0_23 l0_24)) else (corebankref34_ranged.j1 kj1 true a0_0 a0_1 a0_2 a0_3 a0_4 a0_5 a0_6 a0_7 a0_8 a0_9 a0_10 a0_11 a0_12 a0_13 a0_14 a0_15 a0_16 a0_17 a0_18 a0_19 a0_20 a0_21 a0_22 l0_23 l0_24))) else (corebankref34_ranged.j1 kj1 true a0_0 a0_1 a0_2 a0_3 a0_4 a0_5 a0_6 a0_7 a0_8 a0_9 a0_10 a0_11 a0_12 a0_13 a0_14 a0_15 a0_16 a0_17 a0_18 a0_19 a0_20 a0_21 a0_22 l0_23 l0_24))) else (corebankref34_ranged.j1 kj1 true a0_0 a0_1 a0_2 a0_3 a0_4 a0_5 a0_6 a0_7 a0_8 a0_9 a0_10 a0_11 a0_12 a0_13 a0_14 a0_15 a0_16 a0_17 a0_18 a0_19 a0_20 a0_21 a0_22 l0_23 l0_24))) else (corebankref34_ranged.j1 kj1 true a0_0 a0_1 a0_2 a0_3 a0_4 a0_5 a0_6 a0_7 a0_8 a0_9 a0_10 a0_11 a0_12 a0_13 a0_14 a0_15 a0_16 a0_17 a0_18 a0_19 a0_20 a0_21 a0_22 l0_23 l0_24))) else (corebankref34_ranged.j1 kj1 true a0_0 a0_1 a0_2 a0_3 a0_4 a0_5 a0_6 a0_7 a0_8 a0_9 a0_10 a0_11 a0_12 a0_13 a0_14 a0_15 a0_16 a0_17 a0_18 a0_19 a0_20 a0_21 a0_22 l0_23 l0_24)) = some r := H
      have A21 := Aside0.mk A210
      clear A210
      by_cases c22 : t483 = true
      ·subst c22
       have H1 : ((corebankref34_within.f a0_8 1000000000000).bind fun t484 => (if t484 = true then ((corebankref34_within.f a0_9 1000000000000).bind fun t485 => (if t485 = true then ((corebankref04_Valid.f a0_7).bind fun t486 => (if t486 = true then ((corebankref34_within.f a0_19 1000000).bind fun t487 => (if t487 = true then ((corebankref34_within.f a0_20 1000000).bind fun t488 => (corebankref34_ranged.j1 kj1 (!t488) a0_0 a0_1 a0_2 a0_3 a0_4 a0_5 a0_6 a0_7 a0_8 a0_9 a0_10 a0_11 a0_12 a0_13 a0_14 a0_15 a0_16 a0_17 a0_18 a0_19 a0_20 a0_21 a0_22 l0_23 l0_24)) else (corebankref34_ranged.j1 kj1 true a0_0 a0_1 a0_2 a0_3 a0_4 a0_5 a0_6 a0_7 a0_8 a0_9 a0_10 a0_11 a0_12 a0_13 a0_14 a0_15 a0_16 a0_17 a0_18 a0_19 a0_20 a0_21 a0_22 l0_23 l0_24))) else (corebankref34_ranged.j1 kj1 true a0_0 a0_1 a0_2 a0_3 a0_4 a0_5 a0_6 a0_7 a0_8 a0_9 a0_10 a0_11 a0_12 a0_13 a0_14 a0_15 a0_16 a0_17 a0_18 a0_19 a0_20 a0_21 a0_22 l0_23 l0_24))) else (corebankref34_ranged.j1 kj1 true a0_0 a0_1 a0_2 a0_3 a0_4 a0_5 a0_6 a0_7 a0_8 a0_9 a0_10 a0_11 a0_12 a0_13 a0_14 a0_15 a0_16 a0_17 a0_18 a0_19 a0_20 a0_21 a0_22 l0_23 l0_24))) else (corebankref34_ranged.j1 kj1 true a0_0 a0_1 a0_2 a0_3 a0_4 a0_5 a0_6 a0_7 a0_8 a0_9 a0_10 a0_11 a0_12 a0_13 a0_14 a0_15 a0_16 a0_17 a0_18 a0_19 a0_20 a0_21 a0_22 l0_23 l0_24))) = some r := by rw [if_pos rfl] at H; exact H
       clear H
       have H := H1
       clear H1
       replace H := Option.bind_eq_some_iff.mp H
       obtain ⟨t484, A230, H⟩ := H
       replace H : (if t484 = true then ((corebankref34_within.f a0_9 1000000000000).bind fun t485 => (if t485 = true then ((corebankref04_Valid.f a0_7).bind fun t486 => (if t486 = true then ((corebankref34_within.f a0_19 1000000).bind fun t487 => (if t487 = true then ((corebankref34_within.f a0_20 1000000).bind fun t488 => (corebankref34_ranged.j1 kj1 (!t488) a0_0 a0_1 a0_2 a0_3 a0_4 a0_5 a0_6 a0_7 a0_8 a0_9 a0_10 a0_11 a0_12 a0_13 a0_14 a0_15 a0_16 a0_17 a0_18 a0_19 a0_20 a0_21 a0_22 l0_23 l0_24)) else (corebankref34_ranged.j1 kj1 true a0_0 a0_1 a0_2 a0_3 a0_4 a0_5 a0_6 a0_7 a0_8 a0_9 a0_10 a0_11 a0_12 a0_13 a0_14 a0_15 a0_16 a0_17 a0_18 a0_19 a0_20 a0_21 a0_22 l0_23 l0_24))) else (corebankref34_ranged.j1 kj1 true a0_0 a0_1 a0_2 a0_3 a0_4 a0_5 a0_6 a0_7 a0_8 a0_9 a0_10 a0_11 a0_12 a0_13 a0_14 a0_15 a0_16 a0_17 a0_18 a0_19 a0_20 a0_21 a0_22 l0_23 l0_24))) else (corebankref34_ranged.j1 kj1 true a0_0 a0_1 a0_2 a0_3 a0_4 a0_5 a0_6 a0_7 a0_8 a0_9 a0_10 a0_11 a0_12 a0_13 a0_14 a0_15 a0_16 a0_17 a0_18 a0_19 a0_20 a0_21 a0_22 l0_23 l0_24))) else (corebankref34_ranged.j1 kj1 true a0_0 a0_1 a0_2 a0_3 a0_4 a0_5 a0_6 a0_7 a0_8 a0_9 a0_10 a0_11 a0_12 a0_13 a0_14 a0_15 a0_16 a0_17 a0_18 a0_19 a0_20 a0_21 a0_22 l0_23 l0_24)) = some r := H
       have A23 := Aside0.mk A230
       clear A230
       by_cases c24 : t484 = true
       ·subst c24
        have H1 : ((corebankref34_within.f a0_9 1000000000000).bind fun t485 => (if t485 = true then ((corebankref04_Valid.f a0_7).bind fun t486 => (if t486 = true then ((corebankref34_within.f a0_19 1000000).bind fun t487 => (if t487 = true then ((corebankref34_within.f a0_20 1000000).bind fun t488 => (corebankref34_ranged.j1 kj1 (!t488) a0_0 a0_1 a0_2 a0_3 a0_4 a0_5 a0_6 a0_7 a0_8 a0_9 a0_10 a0_11 a0_12 a0_13 a0_14 a0_15 a0_16 a0_17 a0_18 a0_19 a0_20 a0_21 a0_22 l0_23 l0_24)) else (corebankref34_ranged.j1 kj1 true a0_0 a0_1 a0_2 a0_3 a0_4 a0_5 a0_6 a0_7 a0_8 a0_9 a0_10 a0_11 a0_12 a0_13 a0_14 a0_15 a0_16 a0_17 a0_18 a0_19 a0_20 a0_21 a0_22 l0_23 l0_24))) else (corebankref34_ranged.j1 kj1 true a0_0 a0_1 a0_2 a0_3 a0_4 a0_5 a0_6 a0_7 a0_8 a0_9 a0_10 a0_11 a0_12 a0_13 a0_14 a0_15 a0_16 a0_17 a0_18 a0_19 a0_20 a0_21 a0_22 l0_23 l0_24))) else (corebankref34_ranged.j1 kj1 true a0_0 a0_1 a0_2 a0_3 a0_4 a0_5 a0_6 a0_7 a0_8 a0_9 a0_10 a0_11 a0_12 a0_13 a0_14 a0_15 a0_16 a0_17 a0_18 a0_19 a0_20 a0_21 a0_22 l0_23 l0_24))) = some r := by rw [if_pos rfl] at H; exact H
        clear H
        have H := H1
        clear H1
        replace H := Option.bind_eq_some_iff.mp H
        obtain ⟨t485, A250, H⟩ := H
        replace H : (if t485 = true then ((corebankref04_Valid.f a0_7).bind fun t486 => (if t486 = true then ((corebankref34_within.f a0_19 1000000).bind fun t487 => (if t487 = true then ((corebankref34_within.f a0_20 1000000).bind fun t488 => (corebankref34_ranged.j1 kj1 (!t488) a0_0 a0_1 a0_2 a0_3 a0_4 a0_5 a0_6 a0_7 a0_8 a0_9 a0_10 a0_11 a0_12 a0_13 a0_14 a0_15 a0_16 a0_17 a0_18 a0_19 a0_20 a0_21 a0_22 l0_23 l0_24)) else (corebankref34_ranged.j1 kj1 true a0_0 a0_1 a0_2 a0_3 a0_4 a0_5 a0_6 a0_7 a0_8 a0_9 a0_10 a0_11 a0_12 a0_13 a0_14 a0_15 a0_16 a0_17 a0_18 a0_19 a0_20 a0_21 a0_22 l0_23 l0_24))) else (corebankref34_ranged.j1 kj1 true a0_0 a0_1 a0_2 a0_3 a0_4 a0_5 a0_6 a0_7 a0_8 a0_9 a0_10 a0_11 a0_12 a0_13 a0_14 a0_15 a0_16 a0_17 a0_18 a0_19 a0_20 a0_21 a0_22 l0_23 l0_24))) else (corebankref34_ranged.j1 kj1 true a0_0 a0_1 a0_2 a0_3 a0_4 a0_5 a0_6 a0_7 a0_8 a0_9 a0_10 a0_11 a0_12 a0_13 a0_14 a0_15 a0_16 a0_17 a0_18 a0_19 a0_20 a0_21 a0_22 l0_23 l0_24)) = some r := H
        have A25 := Aside0.mk A250
        clear A250
        by_cases c26 : t485 = true
        ·subst c26
         have H1 : ((corebankref04_Valid.f a0_7).bind fun t486 => (if t486 = true then ((corebankref34_within.f a0_19 1000000).bind fun t487 => (if t487 = true then ((corebankref34_within.f a0_20 1000000).bind fun t488 => (corebankref34_ranged.j1 kj1 (!t488) a0_0 a0_1 a0_2 a0_3 a0_4 a0_5 a0_6 a0_7 a0_8 a0_9 a0_10 a0_11 a0_12 a0_13 a0_14 a0_15 a0_16 a0_17 a0_18 a0_19 a0_20 a0_21 a0_22 l0_23 l0_24)) else (corebankref34_ranged.j1 kj1 true a0_0 a0_1 a0_2 a0_3 a0_4 a0_5 a0_6 a0_7 a0_8 a0_9 a0_10 a0_11 a0_12 a0_13 a0_14 a0_15 a0_16 a0_17 a0_18 a0_19 a0_20 a0_21 a0_22 l0_23 l0_24))) else (corebankref34_ranged.j1 kj1 true a0_0 a0_1 a0_2 a0_3 a0_4 a0_5 a0_6 a0_7 a0_8 a0_9 a0_10 a0_11 a0_12 a0_13 a0_14 a0_15 a0_16 a0_17 a0_18 a0_19 a0_20 a0_21 a0_22 l0_23 l0_24))) = some r := by rw [if_pos rfl] at H; exact H
         clear H
         have H := H1
         clear H1
         replace H := Option.bind_eq_some_iff.mp H
         obtain ⟨t486, A270, H⟩ := H
         replace H : (if t486 = true then ((corebankref34_within.f a0_19 1000000).bind fun t487 => (if t487 = true then ((corebankref34_within.f a0_20 1000000).bind fun t488 => (corebankref34_ranged.j1 kj1 (!t488) a0_0 a0_1 a0_2 a0_3 a0_4 a0_5 a0_6 a0_7 a0_8 a0_9 a0_10 a0_11 a0_12 a0_13 a0_14 a0_15 a0_16 a0_17 a0_18 a0_19 a0_20 a0_21 a0_22 l0_23 l0_24)) else (corebankref34_ranged.j1 kj1 true a0_0 a0_1 a0_2 a0_3 a0_4 a0_5 a0_6 a0_7 a0_8 a0_9 a0_10 a0_11 a0_12 a0_13 a0_14 a0_15 a0_16 a0_17 a0_18 a0_19 a0_20 a0_21 a0_22 l0_23 l0_24))) else (corebankref34_ranged.j1 kj1 true a0_0 a0_1 a0_2 a0_3 a0_4 a0_5 a0_6 a0_7 a0_8 a0_9 a0_10 a0_11 a0_12 a0_13 a0_14 a0_15 a0_16 a0_17 a0_18 a0_19 a0_20 a0_21 a0_22 l0_23 l0_24)) = some r := H
         have A27 := Aside0.mk A270
         clear A270
         by_cases c28 : t486 = true
         ·subst c28
          have H1 : ((corebankref34_within.f a0_19 1000000).bind fun t487 => (if t487 = true then ((corebankref34_within.f a0_20 1000000).bind fun t488 => (corebankref34_ranged.j1 kj1 (!t488) a0_0 a0_1 a0_2 a0_3 a0_4 a0_5 a0_6 a0_7 a0_8 a0_9 a0_10 a0_11 a0_12 a0_13 a0_14 a0_15 a0_16 a0_17 a0_18 a0_19 a0_20 a0_21 a0_22 l0_23 l0_24)) else (corebankref34_ranged.j1 kj1 true a0_0 a0_1 a0_2 a0_3 a0_4 a0_5 a0_6 a0_7 a0_8 a0_9 a0_10 a0_11 a0_12 a0_13 a0_14 a0_15 a0_16 a0_17 a0_18 a0_19 a0_20 a0_21 a0_22 l0_23 l0_24))) = some r := by rw [if_pos rfl] at H; exact H
          clear H
          have H := H1
          clear H1
          replace H := Option.bind_eq_some_iff.mp H
          obtain ⟨t487, A290, H⟩ := H
          replace H : (if t487 = true then ((corebankref34_within.f a0_20 1000000).bind fun t488 => (corebankref34_ranged.j1 kj1 (!t488) a0_0 a0_1 a0_2 a0_3 a0_4 a0_5 a0_6 a0_7 a0_8 a0_9 a0_10 a0_11 a0_12 a0_13 a0_14 a0_15 a0_16 a0_17 a0_18 a0_19 a0_20 a0_21 a0_22 l0_23 l0_24)) else (corebankref34_ranged.j1 kj1 true a0_0 a0_1 a0_2 a0_3 a0_4 a0_5 a0_6 a0_7 a0_8 a0_9 a0_10 a0_11 a0_12 a0_13 a0_14 a0_15 a0_16 a0_17 a0_18 a0_19 a0_20 a0_21 a0_22 l0_23 l0_24)) = some r := H
          have A29 := Aside0.mk A290
          clear A290
          by_cases c30 : t487 = true
          ·subst c30
           have H1 : ((corebankref34_within.f a0_20 1000000).bind fun t488 => (corebankref34_ranged.j1 kj1 (!t488) a0_0 a0_1 a0_2 a0_3 a0_4 a0_5 a0_6 a0_7 a0_8 a0_9 a0_10 a0_11 a0_12 a0_13 a0_14 a0_15 a0_16 a0_17 a0_18 a0_19 a0_20 a0_21 a0_22 l0_23 l0_24)) = some r := by rw [if_pos rfl] at H; exact H
           clear H
           have H := H1
           clear H1
           replace H := Option.bind_eq_some_iff.mp H
           obtain ⟨t488, A310, H⟩ := H
           replace H : (corebankref34_ranged.j1 kj1 (!t488) a0_0 a0_1 a0_2 a0_3 a0_4 a0_5 a0_6 a0_7 a0_8 a0_9 a0_10 a0_11 a0_12 a0_13 a0_14 a0_15 a0_16 a0_17 a0_18 a0_19 a0_20 a0_21 a0_22 l0_23 l0_24) = some r := H
           have A31 := Aside0.mk A310
           clear A310
           have H' := Aside0.mk H
           clear H
           obtain ⟨Z32_0, Z32_1, Z32_2, Z32_3, Z32_4, Z32_5, Z32_6, Z32_7, Z32_8, Z32_9, Z32_10, Z32_11, Z32_12, Z32_13, Z32_14, Z32_15, Z32_16, Z32_17, Z32_18, Z32_19, Z32_20, Z32_21, Z32_22, Z32_23, Z32_24, Y32_0, Y32_1, Y32_2, Y32_3, Y32_4, Y32_5, Y32_6, Y32_7, Y32_8, Y32_9, Y32_10, Y32_11, Y32_12, Y32_13, Y32_14, Y32_15, Y32_16, Y32_17, Y32_18, Y32_19, Y32_20, Y32_21, Y32_22, Y32_23, Y32_24⟩ := cz25_ BK481.out
           go_wp2_with (first | ((with_reducible refine gate_load_ (t := 27) rfl ?_); refine ld_ (t := 27) Tryd.underlying27 rfl rfl rfl (by (repeat (first | (with_reducible first | refine blk_drewN ?_ _ | refine blk_drew ?_ | refine blk_alloc ?_ _) | refine blk_far ?_ NB481_490.out _ | refine blk_set ?_ _ _)); (with_reducible first | exact BK481.out)) rfl (by kernel_rfl) ?_) | ((with_reducible refine gate_load_ (t := 27) rfl ?_); refine ldg48_ (t := 27) Tryd.underlying27 rfl (by rfl) rfl (by (repeat (first | (with_reducible first | refine blk_drewN ?_ _ | refine blk_drew ?_ | refine blk_alloc ?_ _) | refine blk_far ?_ NB481_490.out _ | refine blk_set ?_ _ _)); (with_reducible first | exact BK481.out)) rfl (by kernel_rfl) ?_) | ((with_reducible refine gate_callee (f := 48) rfl ?_); refine goesL_ (some 40) rfl rfl Tryd.func48 (by kernel_rfl) rfl #[.int .i64 a0_5, .int .i64 1000000000000] rfl ql_ ?_; (with_reducible refine (corebankref34_within.calls a0_5 1000000000000 true _ A19.out).mono ?_); rintro e w' ⟨rfl, ⟨nd, rfl⟩⟩; refine ⟨_, rfl, ?_⟩) | (go_at_call 48; (with_reducible refine (corebankref34_within.calls a0_6 1000000000000 true _ A21.out).mono ?_); rintro e w' ⟨rfl, ⟨nd, rfl⟩⟩) | (go_at_call 48; (with_reducible refine (corebankref34_within.calls a0_8 1000000000000 true _ A23.out).mono ?_); rintro e w' ⟨rfl, ⟨nd, rfl⟩⟩) | (go_at_call 48; (with_reducible refine (corebankref34_within.calls a0_9 1000000000000 true _ A25.out).mono ?_); rintro e w' ⟨rfl, ⟨nd, rfl⟩⟩) | (go_at_call 49; (with_reducible refine (corebankref04_Valid.calls a0_7 true _ A27.out).mono ?_); rintro e w' ⟨rfl, ⟨nd, rfl⟩⟩) | (go_at_call 48; (with_reducible refine (corebankref34_within.calls a0_19 1000000 true _ A29.out).mono ?_); rintro e w' ⟨rfl, ⟨nd, rfl⟩⟩) | (go_at_call 48; (with_reducible refine (corebankref34_within.calls a0_20 1000000 t488 _ A31.out).mono ?_); rintro e w' ⟨rfl, ⟨nd, rfl⟩⟩))
           go_meet
           case rel => exact ⟨_, (!t488), qs_, H', ⟨by have := HJ1.out; first | omega | exact Nat.le_refl _⟩, ⟨qk_ BK481.out⟩, ⟨qb1_ GE481.out HB.out⟩⟩
          ·replace c30 := Bool.eq_false_iff.mpr c30
           subst c30
           have H1 : (corebankref34_ranged.j1 kj1 true a0_0 a0_1 a0_2 a0_3 a0_4 a0_5 a0_6 a0_7 a0_8 a0_9 a0_10 a0_11 a0_12 a0_13 a0_14 a0_15 a0_16 a0_17 a0_18 a0_19 a0_20 a0_21 a0_22 l0_23 l0_24) = some r := by rw [if_neg (show ¬ (false = true) by decide)] at H; exact H
           clear H
           have H := H1
           clear H1
           have H' := Aside0.mk H
           clear H
           obtain ⟨Z33_0, Z33_1, Z33_2, Z33_3, Z33_4, Z33_5, Z33_6, Z33_7, Z33_8, Z33_9, Z33_10, Z33_11, Z33_12, Z33_13, Z33_14, Z33_15, Z33_16, Z33_17, Z33_18, Z33_19, Z33_20, Z33_21, Z33_22, Z33_23, Z33_24, Y33_0, Y33_1, Y33_2, Y33_3, Y33_4, Y33_5, Y33_6, Y33_7, Y33_8, Y33_9, Y33_10, Y33_11, Y33_12, Y33_13, Y33_14, Y33_15, Y33_16, Y33_17, Y33_18, Y33_19, Y33_20, Y33_21, Y33_22, Y33_23, Y33_24⟩ := cz25_ BK481.out
           go_wp2_with (first | ((with_reducible refine gate_load_ (t := 27) rfl ?_); refine ld_ (t := 27) Tryd.underlying27 rfl rfl rfl (by (repeat (first | (with_reducible first | refine blk_drewN ?_ _ | refine blk_drew ?_ | refine blk_alloc ?_ _) | refine blk_far ?_ NB481_490.out _ | refine blk_set ?_ _ _)); (with_reducible first | exact BK481.out)) rfl (by kernel_rfl) ?_) | ((with_reducible refine gate_load_ (t := 27) rfl ?_); refine ldg48_ (t := 27) Tryd.underlying27 rfl (by rfl) rfl (by (repeat (first | (with_reducible first | refine blk_drewN ?_ _ | refine blk_drew ?_ | refine blk_alloc ?_ _) | refine blk_far ?_ NB481_490.out _ | refine blk_set ?_ _ _)); (with_reducible first | exact BK481.out)) rfl (by kernel_rfl) ?_) | ((with_reducible refine gate_callee (f := 48) rfl ?_); refine goesL_ (some 40) rfl rfl Tryd.func48 (by kernel_rfl) rfl #[.int .i64 a0_5, .int .i64 1000000000000] rfl ql_ ?_; (with_reducible refine (corebankref34_within.calls a0_5 1000000000000 true _ A19.out).mono ?_); rintro e w' ⟨rfl, ⟨nd, rfl⟩⟩; refine ⟨_, rfl, ?_⟩) | (go_at_call 48; (with_reducible refine (corebankref34_within.calls a0_6 1000000000000 true _ A21.out).mono ?_); rintro e w' ⟨rfl, ⟨nd, rfl⟩⟩) | (go_at_call 48; (with_reducible refine (corebankref34_within.calls a0_8 1000000000000 true _ A23.out).mono ?_); rintro e w' ⟨rfl, ⟨nd, rfl⟩⟩) | (go_at_call 48; (with_reducible refine (corebankref34_within.calls a0_9 1000000000000 true _ A25.out).mono ?_); rintro e w' ⟨rfl, ⟨nd, rfl⟩⟩) | (go_at_call 49; (with_reducible refine (corebankref04_Valid.calls a0_7 true _ A27.out).mono ?_); rintro e w' ⟨rfl, ⟨nd, rfl⟩⟩) | (go_at_call 48; (with_reducible refine (corebankref34_within.calls a0_19 1000000 false _ A29.out).mono ?_); rintro e w' ⟨rfl, ⟨nd, rfl⟩⟩))
           go_meet
           case rel => exact ⟨_, (true), qs_, H', ⟨by have := HJ1.out; first | omega | exact Nat.le_refl _⟩, ⟨qk_ BK481.out⟩, ⟨qb1_ GE481.out HB.out⟩⟩
         ·replace c28 := Bool.eq_false_iff.mpr c28
          subst c28
          have H1 : (corebankref34_ranged.j1 kj1 true a0_0 a0_1 a0_2 a0_3 a0_4 a0_5 a0_6 a0_7 a0_8 a0_9 a0_10 a0_11 a0_12 a0_13 a0_14 a0_15 a0_16 a0_17 a0_18 a0_19 a0_20 a0_21 a0_22 l0_23 l0_24) = some r := by rw [if_neg (show ¬ (false = true) by decide)] at H; exact H
          clear H
          have H := H1
          clear H1
          have H' := Aside0.mk H
          clear H
          obtain ⟨Z34_0, Z34_1, Z34_2, Z34_3, Z34_4, Z34_5, Z34_6, Z34_7, Z34_8, Z34_9, Z34_10, Z34_11, Z34_12, Z34_13, Z34_14, Z34_15, Z34_16, Z34_17, Z34_18, Z34_19, Z34_20, Z34_21, Z34_22, Z34_23, Z34_24, Y34_0, Y34_1, Y34_2, Y34_3, Y34_4, Y34_5, Y34_6, Y34_7, Y34_8, Y34_9, Y34_10, Y34_11, Y34_12, Y34_13, Y34_14, Y34_15, Y34_16, Y34_17, Y34_18, Y34_19, Y34_20, Y34_21, Y34_22, Y34_23, Y34_24⟩ := cz25_ BK481.out
          go_wp2_with (first | ((with_reducible refine gate_load_ (t := 27) rfl ?_); refine ld_ (t := 27) Tryd.underlying27 rfl rfl rfl (by (repeat (first | (with_reducible first | refine blk_drewN ?_ _ | refine blk_drew ?_ | refine blk_alloc ?_ _) | refine blk_far ?_ NB481_490.out _ | refine blk_set ?_ _ _)); (with_reducible first | exact BK481.out)) rfl (by kernel_rfl) ?_) | ((with_reducible refine gate_load_ (t := 27) rfl ?_); refine ldg48_ (t := 27) Tryd.underlying27 rfl (by rfl) rfl (by (repeat (first | (with_reducible first | refine blk_drewN ?_ _ | refine blk_drew ?_ | refine blk_alloc ?_ _) | refine blk_far ?_ NB481_490.out _ | refine blk_set ?_ _ _)); (with_reducible first | exact BK481.out)) rfl (by kernel_rfl) ?_) | ((with_reducible refine gate_callee (f := 48) rfl ?_); refine goesL_ (some 40) rfl rfl Tryd.func48 (by kernel_rfl) rfl #[.int .i64 a0_5, .int .i64 1000000000000] rfl ql_ ?_; (with_reducible refine (corebankref34_within.calls a0_5 1000000000000 true _ A19.out).mono ?_); rintro e w' ⟨rfl, ⟨nd, rfl⟩⟩; refine ⟨_, rfl, ?_⟩) | (go_at_call 48; (with_reducible refine (corebankref34_within.calls a0_6 1000000000000 true _ A21.out).mono ?_); rintro e w' ⟨rfl, ⟨nd, rfl⟩⟩) | (go_at_call 48; (with_reducible refine (corebankref34_within.calls a0_8 1000000000000 true _ A23.out).mono ?_); rintro e w' ⟨rfl, ⟨nd, rfl⟩⟩) | (go_at_call 48; (with_reducible refine (corebankref34_within.calls a0_9 1000000000000 true _ A25.out).mono ?_); rintro e w' ⟨rfl, ⟨nd, rfl⟩⟩) | (go_at_call 49; (with_reducible refine (corebankref04_Valid.calls a0_7 false _ A27.out).mono ?_); rintro e w' ⟨rfl, ⟨nd, rfl⟩⟩))
          go_meet
          case rel => exact ⟨_, (true), qs_, H', ⟨by have := HJ1.out; first | omega | exact Nat.le_refl _⟩, ⟨qk_ BK481.out⟩, ⟨qb1_ GE481.out HB.out⟩⟩
        ·replace c26 := Bool.eq_false_iff.mpr c26
         subst c26
         have H1 : (corebankref34_ranged.j1 kj1 true a0_0 a0_1 a0_2 a0_3 a0_4 a0_5 a0_6 a0_7 a0_8 a0_9 a0_10 a0_11 a0_12 a0_13 a0_14 a0_15 a0_16 a0_17 a0_18 a0_19 a0_20 a0_21 a0_22 l0_23 l0_24) = some r := by rw [if_neg (show ¬ (false = true) by decide)] at H; exact H
         clear H
         have H := H1
         clear H1
         have H' := Aside0.mk H
         clear H
         obtain ⟨Z35_0, Z35_1, Z35_2, Z35_3, Z35_4, Z35_5, Z35_6, Z35_7, Z35_8, Z35_9, Z35_10, Z35_11, Z35_12, Z35_13, Z35_14, Z35_15, Z35_16, Z35_17, Z35_18, Z35_19, Z35_20, Z35_21, Z35_22, Z35_23, Z35_24, Y35_0, Y35_1, Y35_2, Y35_3, Y35_4, Y35_5, Y35_6, Y35_7, Y35_8, Y35_9, Y35_10, Y35_11, Y35_12, Y35_13, Y35_14, Y35_15, Y35_16, Y35_17, Y35_18, Y35_19, Y35_20, Y35_21, Y35_22, Y35_23, Y35_24⟩ := cz25_ BK481.out
         go_wp2_with (first | ((with_reducible refine gate_load_ (t := 27) rfl ?_); refine ld_ (t := 27) Tryd.underlying27 rfl rfl rfl (by (repeat (first | (with_reducible first | refine blk_drewN ?_ _ | refine blk_drew ?_ | refine blk_alloc ?_ _) | refine blk_far ?_ NB481_490.out _ | refine blk_set ?_ _ _)); (with_reducible first | exact BK481.out)) rfl (by kernel_rfl) ?_) | ((with_reducible refine gate_load_ (t := 27) rfl ?_); refine ldg48_ (t := 27) Tryd.underlying27 rfl (by rfl) rfl (by (repeat (first | (with_reducible first | refine blk_drewN ?_ _ | refine blk_drew ?_ | refine blk_alloc ?_ _) | refine blk_far ?_ NB481_490.out _ | refine blk_set ?_ _ _)); (with_reducible first | exact BK481.out)) rfl (by kernel_rfl) ?_) | ((with_reducible refine gate_callee (f := 48) rfl ?_); refine goesL_ (some 40) rfl rfl Tryd.func48 (by kernel_rfl) rfl #[.int .i64 a0_5, .int .i64 1000000000000] rfl ql_ ?_; (with_reducible refine (corebankref34_within.calls a0_5 1000000000000 true _ A19.out).mono ?_); rintro e w' ⟨rfl, ⟨nd, rfl⟩⟩; refine ⟨_, rfl, ?_⟩) | (go_at_call 48; (with_reducible refine (corebankref34_within.calls a0_6 1000000000000 true _ A21.out).mono ?_); rintro e w' ⟨rfl, ⟨nd, rfl⟩⟩) | (go_at_call 48; (with_reducible refine (corebankref34_within.calls a0_8 1000000000000 true _ A23.out).mono ?_); rintro e w' ⟨rfl, ⟨nd, rfl⟩⟩) | (go_at_call 48; (with_reducible refine (corebankref34_within.calls a0_9 1000000000000 false _ A25.out).mono ?_); rintro e w' ⟨rfl, ⟨nd, rfl⟩⟩))
         go_meet
         case rel => exact ⟨_, (true), qs_, H', ⟨by have := HJ1.out; first | omega | exact Nat.le_refl _⟩, ⟨qk_ BK481.out⟩, ⟨qb1_ GE481.out HB.out⟩⟩
       ·replace c24 := Bool.eq_false_iff.mpr c24
        subst c24
        have H1 : (corebankref34_ranged.j1 kj1 true a0_0 a0_1 a0_2 a0_3 a0_4 a0_5 a0_6 a0_7 a0_8 a0_9 a0_10 a0_11 a0_12 a0_13 a0_14 a0_15 a0_16 a0_17 a0_18 a0_19 a0_20 a0_21 a0_22 l0_23 l0_24) = some r := by rw [if_neg (show ¬ (false = true) by decide)] at H; exact H
        clear H
        have H := H1
        clear H1
        have H' := Aside0.mk H
        clear H
        obtain ⟨Z36_0, Z36_1, Z36_2, Z36_3, Z36_4, Z36_5, Z36_6, Z36_7, Z36_8, Z36_9, Z36_10, Z36_11, Z36_12, Z36_13, Z36_14, Z36_15, Z36_16, Z36_17, Z36_18, Z36_19, Z36_20, Z36_21, Z36_22, Z36_23, Z36_24, Y36_0, Y36_1, Y36_2, Y36_3, Y36_4, Y36_5, Y36_6, Y36_7, Y36_8, Y36_9, Y36_10, Y36_11, Y36_12, Y36_13, Y36_14, Y36_15, Y36_16, Y36_17, Y36_18, Y36_19, Y36_20, Y36_21, Y36_22, Y36_23, Y36_24⟩ := cz25_ BK481.out
        go_wp2_with (first | ((with_reducible refine gate_load_ (t := 27) rfl ?_); refine ld_ (t := 27) Tryd.underlying27 rfl rfl rfl (by (repeat (first | (with_reducible first | refine blk_drewN ?_ _ | refine blk_drew ?_ | refine blk_alloc ?_ _) | refine blk_far ?_ NB481_490.out _ | refine blk_set ?_ _ _)); (with_reducible first | exact BK481.out)) rfl (by kernel_rfl) ?_) | ((with_reducible refine gate_load_ (t := 27) rfl ?_); refine ldg48_ (t := 27) Tryd.underlying27 rfl (by rfl) rfl (by (repeat (first | (with_reducible first | refine blk_drewN ?_ _ | refine blk_drew ?_ | refine blk_alloc ?_ _) | refine blk_far ?_ NB481_490.out _ | refine blk_set ?_ _ _)); (with_reducible first | exact BK481.out)) rfl (by kernel_rfl) ?_) | ((with_reducible refine gate_callee (f := 48) rfl ?_); refine goesL_ (some 40) rfl rfl Tryd.func48 (by kernel_rfl) rfl #[.int .i64 a0_5, .int .i64 1000000000000] rfl ql_ ?_; (with_reducible refine (corebankref34_within.calls a0_5 1000000000000 true _ A19.out).mono ?_); rintro e w' ⟨rfl, ⟨nd, rfl⟩⟩; refine ⟨_, rfl, ?_⟩) | (go_at_call 48; (with_reducible refine (corebankref34_within.calls a0_6 1000000000000 true _ A21.out).mono ?_); rintro e w' ⟨rfl, ⟨nd, rfl⟩⟩) | (go_at_call 48; (with_reducible refine (corebankref34_within.calls a0_8 1000000000000 false _ A23.out).mono ?_); rintro e w' ⟨rfl, ⟨nd, rfl⟩⟩))
        go_meet
        case rel => exact ⟨_, (true), qs_, H', ⟨by have := HJ1.out; first | omega | exact Nat.le_refl _⟩, ⟨qk_ BK481.out⟩, ⟨qb1_ GE481.out HB.out⟩⟩
      ·replace c22 := Bool.eq_false_iff.mpr c22
       subst c22
       have H1 : (corebankref34_ranged.j1 kj1 true a0_0 a0_1 a0_2 a0_3 a0_4 a0_5 a0_6 a0_7 a0_8 a0_9 a0_10 a0_11 a0_12 a0_13 a0_14 a0_15 a0_16 a0_17 a0_18 a0_19 a0_20 a0_21 a0_22 l0_23 l0_24) = some r := by rw [if_neg (show ¬ (false = true) by decide)] at H; exact H
       clear H
       have H := H1
       clear H1
       have H' := Aside0.mk H
       clear H
       obtain ⟨Z37_0, Z37_1, Z37_2, Z37_3, Z37_4, Z37_5, Z37_6, Z37_7, Z37_8, Z37_9, Z37_10, Z37_11, Z37_12, Z37_13, Z37_14, Z37_15, Z37_16, Z37_17, Z37_18, Z37_19, Z37_20, Z37_21, Z37_22, Z37_23, Z37_24, Y37_0, Y37_1, Y37_2, Y37_3, Y37_4, Y37_5, Y37_6, Y37_7, Y37_8, Y37_9, Y37_10, Y37_11, Y37_12, Y37_13, Y37_14, Y37_15, Y37_16, Y37_17, Y37_18, Y37_19, Y37_20, Y37_21, Y37_22, Y37_23, Y37_24⟩ := cz25_ BK481.out
       go_wp2_with (first | ((with_reducible refine gate_load_ (t := 27) rfl ?_); refine ld_ (t := 27) Tryd.underlying27 rfl rfl rfl (by (repeat (first | (with_reducible first | refine blk_drewN ?_ _ | refine blk_drew ?_ | refine blk_alloc ?_ _) | refine blk_far ?_ NB481_490.out _ | refine blk_set ?_ _ _)); (with_reducible first | exact BK481.out)) rfl (by kernel_rfl) ?_) | ((with_reducible refine gate_load_ (t := 27) rfl ?_); refine ldg48_ (t := 27) Tryd.underlying27 rfl (by rfl) rfl (by (repeat (first | (with_reducible first | refine blk_drewN ?_ _ | refine blk_drew ?_ | refine blk_alloc ?_ _) | refine blk_far ?_ NB481_490.out _ | refine blk_set ?_ _ _)); (with_reducible first | exact BK481.out)) rfl (by kernel_rfl) ?_) | ((with_reducible refine gate_callee (f := 48) rfl ?_); refine goesL_ (some 40) rfl rfl Tryd.func48 (by kernel_rfl) rfl #[.int .i64 a0_5, .int .i64 1000000000000] rfl ql_ ?_; (with_reducible refine (corebankref34_within.calls a0_5 1000000000000 true _ A19.out).mono ?_); rintro e w' ⟨rfl, ⟨nd, rfl⟩⟩; refine ⟨_, rfl, ?_⟩) | (go_at_call 48; (with_reducible refine (corebankref34_within.calls a0_6 1000000000000 false _ A21.out).mono ?_); rintro e w' ⟨rfl, ⟨nd, rfl⟩⟩))
       go_meet
       case rel => exact ⟨_, (true), qs_, H', ⟨by have := HJ1.out; first | omega | exact Nat.le_refl _⟩, ⟨qk_ BK481.out⟩, ⟨qb1_ GE481.out HB.out⟩⟩
     ·replace c20 := Bool.eq_false_iff.mpr c20
      subst c20
      have H1 : (corebankref34_ranged.j1 kj1 true a0_0 a0_1 a0_2 a0_3 a0_4 a0_5 a0_6 a0_7 a0_8 a0_9 a0_10 a0_11 a0_12 a0_13 a0_14 a0_15 a0_16 a0_17 a0_18 a0_19 a0_20 a0_21 a0_22 l0_23 l0_24) = some r := by rw [if_neg (show ¬ (false = true) by decide)] at H; exact H
      clear H
      have H := H1
      clear H1
      have H' := Aside0.mk H
      clear H
      obtain ⟨Z38_0, Z38_1, Z38_2, Z38_3, Z38_4, Z38_5, Z38_6, Z38_7, Z38_8, Z38_9, Z38_10, Z38_11, Z38_12, Z38_13, Z38_14, Z38_15, Z38_16, Z38_17, Z38_18, Z38_19, Z38_20, Z38_21, Z38_22, Z38_23, Z38_24, Y38_0, Y38_1, Y38_2, Y38_3, Y38_4, Y38_5, Y38_6, Y38_7, Y38_8, Y38_9, Y38_10, Y38_11, Y38_12, Y38_13, Y38_14, Y38_15, Y38_16, Y38_17, Y38_18, Y38_19, Y38_20, Y38_21, Y38_22, Y38_23, Y38_24⟩ := cz25_ BK481.out
      go_wp2_with (first | ((with_reducible refine gate_load_ (t := 27) rfl ?_); refine ld_ (t := 27) Tryd.underlying27 rfl rfl rfl (by (repeat (first | (with_reducible first | refine blk_drewN ?_ _ | refine blk_drew ?_ | refine blk_alloc ?_ _) | refine blk_far ?_ NB481_490.out _ | refine blk_set ?_ _ _)); (with_reducible first | exact BK481.out)) rfl (by kernel_rfl) ?_) | ((with_reducible refine gate_load_ (t := 27) rfl ?_); refine ldg48_ (t := 27) Tryd.underlying27 rfl (by rfl) rfl (by (repeat (first | (with_reducible first | refine blk_drewN ?_ _ | refine blk_drew ?_ | refine blk_alloc ?_ _) | refine blk_far ?_ NB481_490.out _ | refine blk_set ?_ _ _)); (with_reducible first | exact BK481.out)) rfl (by kernel_rfl) ?_) | ((with_reducible refine gate_callee (f := 48) rfl ?_); refine goesL_ (some 40) rfl rfl Tryd.func48 (by kernel_rfl) rfl #[.int .i64 a0_5, .int .i64 1000000000000] rfl ql_ ?_; (with_reducible refine (corebankref34_within.calls a0_5 1000000000000 false _ A19.out).mono ?_); rintro e w' ⟨rfl, ⟨nd, rfl⟩⟩; refine ⟨_, rfl, ?_⟩))
      go_meet
      case rel => exact ⟨_, (true), qs_, H', ⟨by have := HJ1.out; first | omega | exact Nat.le_refl _⟩, ⟨qk_ BK481.out⟩, ⟨qb1_ GE481.out HB.out⟩⟩
    case rest =>
     clear HC18
     try clear c1
     try clear c2
     try clear p2
     try clear c3
     try clear c4
     try clear c17
     try clear c20
     try clear c22
     try clear c24
     try clear c26
     try clear c28
     try clear c30
     (try clear Z32_0 Z32_1 Z32_10 Z32_11 Z32_12 Z32_13 Z32_14 Z32_15 Z32_16 Z32_17 Z32_18 Z32_19 Z32_2 Z32_20 Z32_21 Z32_22 Z32_23 Z32_24 Z32_3 Z32_4 Z32_5 Z32_6 Z32_7 Z32_8 Z32_9 Y32_0 Y32_1 Y32_10 Y32_11 Y32_12 Y32_13 Y32_14 Y32_15 Y32_16 Y32_17 Y32_18 Y32_19 Y32_2 Y32_20 Y32_21 Y32_22 Y32_23 Y32_24 Y32_3 Y32_4 Y32_5 Y32_6 Y32_7 Y32_8 Y32_9)
     (try clear Z33_0 Z33_1 Z33_10 Z33_11 Z33_12 Z33_13 Z33_14 Z33_15 Z33_16 Z33_17 Z33_18 Z33_19 Z33_2 Z33_20 Z33_21 Z33_22 Z33_23 Z33_24 Z33_3 Z33_4 Z33_5 Z33_6 Z33_7 Z33_8 Z33_9 Y33_0 Y33_1 Y33_10 Y33_11 Y33_12 Y33_13 Y33_14 Y33_15 Y33_16 Y33_17 Y33_18 Y33_19 Y33_2 Y33_20 Y33_21 Y33_22 Y33_23 Y33_24 Y33_3 Y33_4 Y33_5 Y33_6 Y33_7 Y33_8 Y33_9)
     (try clear Z34_0 Z34_1 Z34_10 Z34_11 Z34_12 Z34_13 Z34_14 Z34_15 Z34_16 Z34_17 Z34_18 Z34_19 Z34_2 Z34_20 Z34_21 Z34_22 Z34_23 Z34_24 Z34_3 Z34_4 Z34_5 Z34_6 Z34_7 Z34_8 Z34_9 Y34_0 Y34_1 Y34_10 Y34_11 Y34_12 Y34_13 Y34_14 Y34_15 Y34_16 Y34_17 Y34_18 Y34_19 Y34_2 Y34_20 Y34_21 Y34_22 Y34_23 Y34_24 Y34_3 Y34_4 Y34_5 Y34_6 Y34_7 Y34_8 Y34_9)
     (try clear Z35_0 Z35_1 Z35_10 Z35_11 Z35_12 Z35_13 Z35_14 Z35_15 Z35_16 Z35_17 Z35_18 Z35_19 Z35_2 Z35_20 Z35_21 Z35_22 Z35_23 Z35_24 Z35_3 Z35_4 Z35_5 Z35_6 Z35_7 Z35_8 Z35_9 Y35_0 Y35_1 Y35_10 Y35_11 Y35_12 Y35_13 Y35_14 Y35_15 Y35_16 Y35_17 Y35_18 Y35_19 Y35_2 Y35_20 Y35_21 Y35_22 Y35_23 Y35_24 Y35_3 Y35_4 Y35_5 Y35_6 Y35_7 Y35_8 Y35_9)
     (try clear Z36_0 Z36_1 Z36_10 Z36_11 Z36_12 Z36_13 Z36_14 Z36_15 Z36_16 Z36_17 Z36_18 Z36_19 Z36_2 Z36_20 Z36_21 Z36_22 Z36_23 Z36_24 Z36_3 Z36_4 Z36_5 Z36_6 Z36_7 Z36_8 Z36_9 Y36_0 Y36_1 Y36_10 Y36_11 Y36_12 Y36_13 Y36_14 Y36_15 Y36_16 Y36_17 Y36_18 Y36_19 Y36_2 Y36_20 Y36_21 Y36_22 Y36_23 Y36_24 Y36_3 Y36_4 Y36_5 Y36_6 Y36_7 Y36_8 Y36_9)
     (try clear Z37_0 Z37_1 Z37_10 Z37_11 Z37_12 Z37_13 Z37_14 Z37_15 Z37_16 Z37_17 Z37_18 Z37_19 Z37_2 Z37_20 Z37_21 Z37_22 Z37_23 Z37_24 Z37_3 Z37_4 Z37_5 Z37_6 Z37_7 Z37_8 Z37_9 Y37_0 Y37_1 Y37_10 Y37_11 Y37_12 Y37_13 Y37_14 Y37_15 Y37_16 Y37_17 Y37_18 Y37_19 Y37_2 Y37_20 Y37_21 Y37_22 Y37_23 Y37_24 Y37_3 Y37_4 Y37_5 Y37_6 Y37_7 Y37_8 Y37_9)
     (try clear Z38_0 Z38_1 Z38_10 Z38_11 Z38_12 Z38_13 Z38_14 Z38_15 Z38_16 Z38_17 Z38_18 Z38_19 Z38_2 Z38_20 Z38_21 Z38_22 Z38_23 Z38_24 Z38_3 Z38_4 Z38_5 Z38_6 Z38_7 Z38_8 Z38_9 Y38_0 Y38_1 Y38_10 Y38_11 Y38_12 Y38_13 Y38_14 Y38_15 Y38_16 Y38_17 Y38_18 Y38_19 Y38_2 Y38_20 Y38_21 Y38_22 Y38_23 Y38_24 Y38_3 Y38_4 Y38_5 Y38_6 Y38_7 Y38_8 Y38_9)
     (try clear Y16_9)
     (try clear Y5_0 Y5_1 Y5_10 Y5_11 Y5_12 Y5_13 Y5_14 Y5_15 Y5_16 Y5_17 Y5_18 Y5_19 Y5_2 Y5_20 Y5_21 Y5_22 Y5_23 Y5_24 Y5_3 Y5_4 Y5_5 Y5_6 Y5_7 Y5_8 Y5_9)
     (try clear Y7_0 Y7_1 Y7_10 Y7_11 Y7_12 Y7_13 Y7_14 Y7_15 Y7_16 Y7_17 Y7_18 Y7_19 Y7_2 Y7_20 Y7_21 Y7_22 Y7_23 Y7_24 Y7_3 Y7_4 Y7_5 Y7_6 Y7_7 Y7_8 Y7_9)
     (try clear Y9_0 Y9_1 Y9_10 Y9_11 Y9_12 Y9_13 Y9_14 Y9_15 Y9_16 Y9_17 Y9_18 Y9_19 Y9_2 Y9_20 Y9_21 Y9_22 Y9_23 Y9_24 Y9_3 Y9_4 Y9_5 Y9_6 Y9_7 Y9_8 Y9_9)
     obtain ⟨kq, x79_17, rfl, HA, HJ17, BK481, HB⟩ := hcut
     cases kq with
     | zero => exact absurd HA.out (by simp [corebankref34_ranged.j1])
     | succ kj17 =>
      have H := HA.out
      clear HA
      simp only [corebankref34_ranged.j1] at H
      by_cases c39 : x79_17 = true
      ·subst c39
       have H1 : (some false) = some r := by rw [if_pos rfl] at H; exact H
       clear H
       have H := H1
       clear H1
       obtain rfl := Option.some.inj H
       go_wp2
       go_ret
       exact ⟨qe_, qb1_ GE481.out HB.out⟩
      ·replace c39 := Bool.eq_false_iff.mpr c39
       subst c39
       have H1 : (if (l0_23.length : Int) < 1 then (corebankref34_ranged.j2 kj17 true a0_0 a0_1 a0_2 a0_3 a0_4 a0_5 a0_6 a0_7 a0_8 a0_9 a0_10 a0_11 a0_12 a0_13 a0_14 a0_15 a0_16 a0_17 a0_18 a0_19 a0_20 a0_21 a0_22 l0_23 l0_24) else (if (l0_23.length : Int) > 240 then (corebankref34_ranged.j2 kj17 true a0_0 a0_1 a0_2 a0_3 a0_4 a0_5 a0_6 a0_7 a0_8 a0_9 a0_10 a0_11 a0_12 a0_13 a0_14 a0_15 a0_16 a0_17 a0_18 a0_19 a0_20 a0_21 a0_22 l0_23 l0_24) else (corebankref34_ranged.j2 kj17 (decide ((l0_24.length : Int) > 64)) a0_0 a0_1 a0_2 a0_3 a0_4 a0_5 a0_6 a0_7 a0_8 a0_9 a0_10 a0_11 a0_12 a0_13 a0_14 a0_15 a0_16 a0_17 a0_18 a0_19 a0_20 a0_21 a0_22 l0_23 l0_24))) = some r := by rw [if_neg (show ¬ (false = true) by decide)] at H; exact H
       clear H
       have H := H1
       clear H1
       have HC40 := Aside0.mk H
       clear H
       go_upto_region 5 with (fail)
       go_cut [95] (fun v95 wc => ∃ (kq : Nat) (x95_39 : Bool), v95 = .bool x95_39 ∧ Aside0 (corebankref34_ranged.j2 kq x95_39 a0_0 a0_1 a0_2 a0_3 a0_4 a0_5 a0_6 a0_7 a0_8 a0_9 a0_10 a0_11 a0_12 a0_13 a0_14 a0_15 a0_16 a0_17 a0_18 a0_19 a0_20 a0_21 a0_22 l0_23 l0_24 = some r) ∧ Aside0 (kq ≤ kj17) ∧ Aside0 (wc.heap[gb481]? = some (.cells #[.int .i64 a0_0, .int .i64 a0_1, .int .i64 a0_2, .int .i64 a0_3, .int .i64 a0_4, .int .i64 a0_5, .int .i64 a0_6, .int .i64 a0_7, .int .i64 a0_8, .int .i64 a0_9, .int .i64 a0_10, .int .i64 a0_11, .int .i64 a0_12, .int .i64 a0_13, .int .i64 a0_14, .int .i64 a0_15, .int .i64 a0_16, .int .i64 a0_17, .int .i64 a0_18, .int .i64 a0_19, .int .i64 a0_20, .string a0_21, .string a0_22, (.slice A0_23 l0_23.length c0_23), (.slice A0_24 l0_24.length c0_24)] 27 (0, 0))) ∧ Aside0 (Below w.heap.size w wc))
       case first =>
        have H := HC40.out
        clear HC40
        by_cases c41 : (l0_23.length : Int) < 1
        ·rw [if_pos c41] at H
         have c41b0 : decide ((l0_23.length : Int) < 1) = true := decide_eq_true c41
         have c41b1 : decide (l0_23.length < 1) = true := decide_eq_true (by omega)
         clear c41
         (first | rw [c41b0] | (simp only [i64_w, i32_w]; rw [c41b0]) | skip)
         have H' := Aside0.mk H
         clear H
         obtain ⟨Z42_0, Z42_1, Z42_2, Z42_3, Z42_4, Z42_5, Z42_6, Z42_7, Z42_8, Z42_9, Z42_10, Z42_11, Z42_12, Z42_13, Z42_14, Z42_15, Z42_16, Z42_17, Z42_18, Z42_19, Z42_20, Z42_21, Z42_22, Z42_23, Z42_24, Y42_0, Y42_1, Y42_2, Y42_3, Y42_4, Y42_5, Y42_6, Y42_7, Y42_8, Y42_9, Y42_10, Y42_11, Y42_12, Y42_13, Y42_14, Y42_15, Y42_16, Y42_17, Y42_18, Y42_19, Y42_20, Y42_21, Y42_22, Y42_23, Y42_24⟩ := cz25_ BK481.out
         go_wp2
         go_meet
         case rel => exact ⟨_, (true), qs_, H', ⟨by have := HJ1.out; have := HJ17.out; first | omega | exact Nat.le_refl _⟩, ⟨qk_ BK481.out⟩, ⟨qb1_ GE481.out HB.out⟩⟩
        ·rw [if_neg c41] at H
         have c41b0 : decide ((l0_23.length : Int) < 1) = false := decide_eq_false c41
         have c41b1 : decide (l0_23.length < 1) = false := decide_eq_false (by omega)
         clear c41
         (first | rw [c41b0] | (simp only [i64_w, i32_w]; rw [c41b0]) | skip)
         by_cases c43 : (l0_23.length : Int) > 240
         ·rw [if_pos c43] at H
          have c43b0 : decide (240 < (l0_23.length : Int)) = true := decide_eq_true c43
          have c43b1 : decide (240 < l0_23.length) = true := decide_eq_true (by omega)
          clear c43
          have H' := Aside0.mk H
          clear H
          obtain ⟨Z44_0, Z44_1, Z44_2, Z44_3, Z44_4, Z44_5, Z44_6, Z44_7, Z44_8, Z44_9, Z44_10, Z44_11, Z44_12, Z44_13, Z44_14, Z44_15, Z44_16, Z44_17, Z44_18, Z44_19, Z44_20, Z44_21, Z44_22, Z44_23, Z44_24, Y44_0, Y44_1, Y44_2, Y44_3, Y44_4, Y44_5, Y44_6, Y44_7, Y44_8, Y44_9, Y44_10, Y44_11, Y44_12, Y44_13, Y44_14, Y44_15, Y44_16, Y44_17, Y44_18, Y44_19, Y44_20, Y44_21, Y44_22, Y44_23, Y44_24⟩ := cz25_ BK481.out
          go_wp2
          go_meet
          case rel => exact ⟨_, (true), qs_, H', ⟨by have := HJ1.out; have := HJ17.out; first | omega | exact Nat.le_refl _⟩, ⟨qk_ BK481.out⟩, ⟨qb1_ GE481.out HB.out⟩⟩
         ·rw [if_neg c43] at H
          have c43b0 : decide (240 < (l0_23.length : Int)) = false := decide_eq_false c43
          have c43b1 : decide (240 < l0_23.length) = false := decide_eq_false (by omega)
          clear c43
          have H' := Aside0.mk H
          clear H
          obtain ⟨Z45_0, Z45_1, Z45_2, Z45_3, Z45_4, Z45_5, Z45_6, Z45_7, Z45_8, Z45_9, Z45_10, Z45_11, Z45_12, Z45_13, Z45_14, Z45_15, Z45_16, Z45_17, Z45_18, Z45_19, Z45_20, Z45_21, Z45_22, Z45_23, Z45_24, Y45_0, Y45_1, Y45_2, Y45_3, Y45_4, Y45_5, Y45_6, Y45_7, Y45_8, Y45_9, Y45_10, Y45_11, Y45_12, Y45_13, Y45_14, Y45_15, Y45_16, Y45_17, Y45_18, Y45_19, Y45_20, Y45_21, Y45_22, Y45_23, Y45_24⟩ := cz25_ BK481.out
          go_wp2
          go_meet
          case rel => exact ⟨_, (decide ((l0_24.length : Int) > 64)), qs_, H', ⟨by have := HJ1.out; have := HJ17.out; first | omega | exact Nat.le_refl _⟩, ⟨qk_ BK481.out⟩, ⟨qb1_ GE481.out HB.out⟩⟩
       case rest =>
        clear HC40
        try clear p2
        try clear c3
        try clear c4
        try clear c39
        try clear c41
        try clear c41b0
        try clear c41b1
        try clear c43
        try clear c43b0
        try clear c43b1
        (try clear Z33_3 Z33_4 Z33_5 Z33_6 Z33_7 Z33_8 Z33_9 Y33_0 Y33_1 Y33_10 Y33_11 Y33_12 Y33_13 Y33_14 Y33_15 Y33_16 Y33_17 Y33_18 Y33_19 Y33_2 Y33_20 Y33_21 Y33_22 Y33_23 Y33_24 Y33_3 Y33_4 Y33_5 Y33_6 Y33_7 Y33_8 Y33_9)
        (try clear Z34_0 Z34_1 Z34_10 Z34_11 Z34_12 Z34_13 Z34_14 Z34_15 Z34_16 Z34_17 Z34_18 Z34_19 Z34_2 Z34_20 Z34_21 Z34_22 Z34_23 Z34_24 Z34_3 Z34_4 Z34_5 Z34_6 Z34_7 Z34_8 Z34_9 Y34_0 Y34_1 Y34_10 Y34_11 Y34_12 Y34_13 Y34_14 Y34_15 Y34_16 Y34_17 Y34_18 Y34_19 Y34_2 Y34_20 Y34_21 Y34_22 Y34_23 Y34_24 Y34_3 Y34_4 Y34_5 Y34_6 Y34_7 Y34_8 Y34_9)
        (try clear Z35_0 Z35_1 Z35_10 Z35_11 Z35_12 Z35_13 Z35_14 Z35_15 Z35_16 Z35_17 Z35_18 Z35_19 Z35_2 Z35_20 Z35_21 Z35_22 Z35_23 Z35_24 Z35_3 Z35_4 Z35_5 Z35_6 Z35_7 Z35_8 Z35_9 Y35_0 Y35_1 Y35_10 Y35_11 Y35_12 Y35_13 Y35_14 Y35_15 Y35_16 Y35_17 Y35_18 Y35_19 Y35_2 Y35_20 Y35_21 Y35_22 Y35_23 Y35_24 Y35_3 Y35_4 Y35_5 Y35_6 Y35_7 Y35_8 Y35_9)
        (try clear Z36_0 Z36_1 Z36_10 Z36_11 Z36_12 Z36_13 Z36_14 Z36_15 Z36_16 Z36_17 Z36_18 Z36_19 Z36_2 Z36_20 Z36_21 Z36_22 Z36_23 Z36_24 Z36_3 Z36_4 Z36_5 Z36_6 Z36_7 Z36_8 Z36_9 Y36_0 Y36_1 Y36_10 Y36_11 Y36_12 Y36_13 Y36_14 Y36_15 Y36_16 Y36_17 Y36_18 Y36_19 Y36_2 Y36_20 Y36_21 Y36_22 Y36_23 Y36_24 Y36_3 Y36_4 Y36_5 Y36_6 Y36_7 Y36_8 Y36_9)
        (try clear Z37_0 Z37_1 Z37_10 Z37_11 Z37_12 Z37_13 Z37_14 Z37_15 Z37_16 Z37_17 Z37_18 Z37_19 Z37_2 Z37_20 Z37_21 Z37_22 Z37_23 Z37_24 Z37_3 Z37_4 Z37_5 Z37_6 Z37_7 Z37_8 Z37_9 Y37_0 Y37_1 Y37_10 Y37_11 Y37_12 Y37_13 Y37_14 Y37_15 Y37_16 Y37_17 Y37_18 Y37_19 Y37_2 Y37_20 Y37_21 Y37_22 Y37_23 Y37_24 Y37_3 Y37_4 Y37_5 Y37_6 Y37_7 Y37_8 Y37_9)
        (try clear Z38_0 Z38_1 Z38_10 Z38_11 Z38_12 Z38_13 Z38_14 Z38_15 Z38_16 Z38_17 Z38_18 Z38_19 Z38_2 Z38_20 Z38_21 Z38_22 Z38_23 Z38_24 Z38_3 Z38_4 Z38_5 Z38_6 Z38_7 Z38_8 Z38_9 Y38_0 Y38_1 Y38_10 Y38_11 Y38_12 Y38_13 Y38_14 Y38_15 Y38_16 Y38_17 Y38_18 Y38_19 Y38_2 Y38_20 Y38_21 Y38_22 Y38_23 Y38_24 Y38_3 Y38_4 Y38_5 Y38_6 Y38_7 Y38_8 Y38_9)
        (try clear Z42_0 Z42_1 Z42_10 Z42_11 Z42_12 Z42_13 Z42_14 Z42_15 Z42_16 Z42_17 Z42_18 Z42_19 Z42_2 Z42_20 Z42_21 Z42_22 Z42_23 Z42_24 Z42_3 Z42_4 Z42_5 Z42_6 Z42_7 Z42_8 Z42_9 Y42_0 Y42_1 Y42_10 Y42_11 Y42_12 Y42_13 Y42_14 Y42_15 Y42_16 Y42_17 Y42_18 Y42_19 Y42_2 Y42_20 Y42_21 Y42_22 Y42_23 Y42_24 Y42_3 Y42_4 Y42_5 Y42_6 Y42_7 Y42_8 Y42_9)
        (try clear Z44_0 Z44_1 Z44_10 Z44_11 Z44_12 Z44_13 Z44_14 Z44_15 Z44_16 Z44_17 Z44_18 Z44_19 Z44_2 Z44_20 Z44_21 Z44_22 Z44_23 Z44_24 Z44_3 Z44_4 Z44_5 Z44_6 Z44_7 Z44_8 Z44_9 Y44_0 Y44_1 Y44_10 Y44_11 Y44_12 Y44_13 Y44_14 Y44_15 Y44_16 Y44_17 Y44_18 Y44_19 Y44_2 Y44_20 Y44_21 Y44_22 Y44_23 Y44_24 Y44_3 Y44_4 Y44_5 Y44_6 Y44_7 Y44_8 Y44_9)
        (try clear Z45_0 Z45_1 Z45_10 Z45_11 Z45_12 Z45_13 Z45_14 Z45_15 Z45_16 Z45_17 Z45_18 Z45_19 Z45_2 Z45_20 Z45_21 Z45_22 Z45_23 Z45_24 Z45_3 Z45_4 Z45_5 Z45_6 Z45_7 Z45_8 Z45_9 Y45_0 Y45_1 Y45_10 Y45_11 Y45_12 Y45_13 Y45_14 Y45_15 Y45_16 Y45_17 Y45_18 Y45_19 Y45_2 Y45_20 Y45_21 Y45_22 Y45_23 Y45_24 Y45_3 Y45_4 Y45_5 Y45_6 Y45_7 Y45_8 Y45_9)
        (try clear Y16_9)
        (try clear Y32_0 Y32_1 Y32_10 Y32_11 Y32_12 Y32_13 Y32_14 Y32_15 Y32_16 Y32_17 Y32_18 Y32_19 Y32_2 Y32_20 Y32_21 Y32_22 Y32_23 Y32_24 Y32_3 Y32_4 Y32_5 Y32_6 Y32_7 Y32_8 Y32_9)
        (try clear Y5_0 Y5_1 Y5_10 Y5_11 Y5_12 Y5_13 Y5_14 Y5_15 Y5_16 Y5_17 Y5_18 Y5_19 Y5_2 Y5_20 Y5_21 Y5_22 Y5_23 Y5_24 Y5_3 Y5_4 Y5_5 Y5_6 Y5_7 Y5_8 Y5_9)
        (try clear Y7_0 Y7_1 Y7_10 Y7_11 Y7_12 Y7_13 Y7_14 Y7_15 Y7_16 Y7_17 Y7_18 Y7_19 Y7_2 Y7_20 Y7_21 Y7_22 Y7_23 Y7_24 Y7_3 Y7_4 Y7_5 Y7_6 Y7_7 Y7_8 Y7_9)
        (try clear Y9_0 Y9_1 Y9_10 Y9_11 Y9_12 Y9_13 Y9_14 Y9_15 Y9_16 Y9_17 Y9_18 Y9_19 Y9_2 Y9_20 Y9_21 Y9_22 Y9_23 Y9_24 Y9_3 Y9_4 Y9_5 Y9_6 Y9_7 Y9_8 Y9_9)
        obtain ⟨kq, x95_39, rfl, HA, HJ39, BK481, HB⟩ := hcut
        cases kq with
        | zero => exact absurd HA.out (by simp [corebankref34_ranged.j2])
        | succ kj39 =>
         have H := HA.out
         clear HA
         simp only [corebankref34_ranged.j2] at H
         by_cases c46 : x95_39 = true
         ·subst c46
          have H1 : (some false) = some r := by rw [if_pos rfl] at H; exact H
          clear H
          have H := H1
          clear H1
          obtain rfl := Option.some.inj H
          go_wp2
          go_ret
          exact ⟨qe_, qb1_ GE481.out HB.out⟩
         ·replace c46 := Bool.eq_false_iff.mpr c46
          subst c46
          have H1 : (corebankref34_ranged.l0 kj39 0 a0_0 a0_1 a0_2 a0_3 a0_4 a0_5 a0_6 a0_7 a0_8 a0_9 a0_10 a0_11 a0_12 a0_13 a0_14 a0_15 a0_16 a0_17 a0_18 a0_19 a0_20 a0_21 a0_22 l0_23 l0_24) = some r := by rw [if_neg (show ¬ (false = true) by decide)] at H; exact H
          clear H
          have H := H1
          clear H1
          have H' := Aside0.mk H
          clear H
          go_wp2
          go_loopg [3] kj39 (fun kq v3 w' => ∃ (x3_4 : Int), v3 = .int .i64 x3_4 ∧ Aside0 (corebankref34_ranged.l0 kq x3_4 a0_0 a0_1 a0_2 a0_3 a0_4 a0_5 a0_6 a0_7 a0_8 a0_9 a0_10 a0_11 a0_12 a0_13 a0_14 a0_15 a0_16 a0_17 a0_18 a0_19 a0_20 a0_21 a0_22 l0_23 l0_24 = some r) ∧ Aside0 (kq ≤ kj39) ∧ Aside0 (w'.heap[gb481]? = some (.cells #[.int .i64 a0_0, .int .i64 a0_1, .int .i64 a0_2, .int .i64 a0_3, .int .i64 a0_4, .int .i64 a0_5, .int .i64 a0_6, .int .i64 a0_7, .int .i64 a0_8, .int .i64 a0_9, .int .i64 a0_10, .int .i64 a0_11, .int .i64 a0_12, .int .i64 a0_13, .int .i64 a0_14, .int .i64 a0_15, .int .i64 a0_16, .int .i64 a0_17, .int .i64 a0_18, .int .i64 a0_19, .int .i64 a0_20, .string a0_21, .string a0_22, (.slice A0_23 l0_23.length c0_23), (.slice A0_24 l0_24.length c0_24)] 27 (0, 0))) ∧ Aside0 (Below w.heap.size w w'))
          case atStart => exact ⟨(0), qs_, H', ⟨Nat.le_refl _⟩, ⟨qk_ BK481.out⟩, ⟨qb1_ GE481.out HB.out⟩⟩
          case round =>
           clear H'
           try clear p2
           try clear c3
           try clear c4
           try clear c39
           try clear c41
           try clear c41b0
           try clear c41b1
           try clear c43
           try clear c43b0
           try clear c43b1
           try clear c46
           (try clear Z33_3 Z33_4 Z33_5 Z33_6 Z33_7 Z33_8 Z33_9 Y33_0 Y33_1 Y33_10 Y33_11 Y33_12 Y33_13 Y33_14 Y33_15 Y33_16 Y33_17 Y33_18 Y33_19 Y33_2 Y33_20 Y33_21 Y33_22 Y33_23 Y33_24 Y33_3 Y33_4 Y33_5 Y33_6 Y33_7 Y33_8 Y33_9)
           (try clear Z34_0 Z34_1 Z34_10 Z34_11 Z34_12 Z34_13 Z34_14 Z34_15 Z34_16 Z34_17 Z34_18 Z34_19 Z34_2 Z34_20 Z34_21 Z34_22 Z34_23 Z34_24 Z34_3 Z34_4 Z34_5 Z34_6 Z34_7 Z34_8 Z34_9 Y34_0 Y34_1 Y34_10 Y34_11 Y34_12 Y34_13 Y34_14 Y34_15 Y34_16 Y34_17 Y34_18 Y34_19 Y34_2 Y34_20 Y34_21 Y34_22 Y34_23 Y34_24 Y34_3 Y34_4 Y34_5 Y34_6 Y34_7 Y34_8 Y34_9)
           (try clear Z35_0 Z35_1 Z35_10 Z35_11 Z35_12 Z35_13 Z35_14 Z35_15 Z35_16 Z35_17 Z35_18 Z35_19 Z35_2 Z35_20 Z35_21 Z35_22 Z35_23 Z35_24 Z35_3 Z35_4 Z35_5 Z35_6 Z35_7 Z35_8 Z35_9 Y35_0 Y35_1 Y35_10 Y35_11 Y35_12 Y35_13 Y35_14 Y35_15 Y35_16 Y35_17 Y35_18 Y35_19 Y35_2 Y35_20 Y35_21 Y35_22 Y35_23 Y35_24 Y35_3 Y35_4 Y35_5 Y35_6 Y35_7 Y35_8 Y35_9)
           (try clear Z36_0 Z36_1 Z36_10 Z36_11 Z36_12 Z36_13 Z36_14 Z36_15 Z36_16 Z36_17 Z36_18 Z36_19 Z36_2 Z36_20 Z36_21 Z36_22 Z36_23 Z36_24 Z36_3 Z36_4 Z36_5 Z36_6 Z36_7 Z36_8 Z36_9 Y36_0 Y36_1 Y36_10 Y36_11 Y36_12 Y36_13 Y36_14 Y36_15 Y36_16 Y36_17 Y36_18 Y36_19 Y36_2 Y36_20 Y36_21 Y36_22 Y36_23 Y36_24 Y36_3 Y36_4 Y36_5 Y36_6 Y36_7 Y36_8 Y36_9)
           (try clear Z37_0 Z37_1 Z37_10 Z37_11 Z37_12 Z37_13 Z37_14 Z37_15 Z37_16 Z37_17 Z37_18 Z37_19 Z37_2 Z37_20 Z37_21 Z37_22 Z37_23 Z37_24 Z37_3 Z37_4 Z37_5 Z37_6 Z37_7 Z37_8 Z37_9 Y37_0 Y37_1 Y37_10 Y37_11 Y37_12 Y37_13 Y37_14 Y37_15 Y37_16 Y37_17 Y37_18 Y37_19 Y37_2 Y37_20 Y37_21 Y37_22 Y37_23 Y37_24 Y37_3 Y37_4 Y37_5 Y37_6 Y37_7 Y37_8 Y37_9)
           (try clear Z38_0 Z38_1 Z38_10 Z38_11 Z38_12 Z38_13 Z38_14 Z38_15 Z38_16 Z38_17 Z38_18 Z38_19 Z38_2 Z38_20 Z38_21 Z38_22 Z38_23 Z38_24 Z38_3 Z38_4 Z38_5 Z38_6 Z38_7 Z38_8 Z38_9 Y38_0 Y38_1 Y38_10 Y38_11 Y38_12 Y38_13 Y38_14 Y38_15 Y38_16 Y38_17 Y38_18 Y38_19 Y38_2 Y38_20 Y38_21 Y38_22 Y38_23 Y38_24 Y38_3 Y38_4 Y38_5 Y38_6 Y38_7 Y38_8 Y38_9)
           (try clear Z42_0 Z42_1 Z42_10 Z42_11 Z42_12 Z42_13 Z42_14 Z42_15 Z42_16 Z42_17 Z42_18 Z42_19 Z42_2 Z42_20 Z42_21 Z42_22 Z42_23 Z42_24 Z42_3 Z42_4 Z42_5 Z42_6 Z42_7 Z42_8 Z42_9 Y42_0 Y42_1 Y42_10 Y42_11 Y42_12 Y42_13 Y42_14 Y42_15 Y42_16 Y42_17 Y42_18 Y42_19 Y42_2 Y42_20 Y42_21 Y42_22 Y42_23 Y42_24 Y42_3 Y42_4 Y42_5 Y42_6 Y42_7 Y42_8 Y42_9)
           (try clear Z44_0 Z44_1 Z44_10 Z44_11 Z44_12 Z44_13 Z44_14 Z44_15 Z44_16 Z44_17 Z44_18 Z44_19 Z44_2 Z44_20 Z44_21 Z44_22 Z44_23 Z44_24 Z44_3 Z44_4 Z44_5 Z44_6 Z44_7 Z44_8 Z44_9 Y44_0 Y44_1 Y44_10 Y44_11 Y44_12 Y44_13 Y44_14 Y44_15 Y44_16 Y44_17 Y44_18 Y44_19 Y44_2 Y44_20 Y44_21 Y44_22 Y44_23 Y44_24 Y44_3 Y44_4 Y44_5 Y44_6 Y44_7 Y44_8 Y44_9)
           (try clear Z45_0 Z45_1 Z45_10 Z45_11 Z45_12 Z45_13 Z45_14 Z45_15 Z45_16 Z45_17 Z45_18 Z45_19 Z45_2 Z45_20 Z45_21 Z45_22 Z45_23 Z45_24 Z45_3 Z45_4 Z45_5 Z45_6 Z45_7 Z45_8 Z45_9 Y45_0 Y45_1 Y45_10 Y45_11 Y45_12 Y45_13 Y45_14 Y45_15 Y45_16 Y45_17 Y45_18 Y45_19 Y45_2 Y45_20 Y45_21 Y45_22 Y45_23 Y45_24 Y45_3 Y45_4 Y45_5 Y45_6 Y45_7 Y45_8 Y45_9)
           (try clear Y16_9)
           (try clear Y32_0 Y32_1 Y32_10 Y32_11 Y32_12 Y32_13 Y32_14 Y32_15 Y32_16 Y32_17 Y32_18 Y32_19 Y32_2 Y32_20 Y32_21 Y32_22 Y32_23 Y32_24 Y32_3 Y32_4 Y32_5 Y32_6 Y32_7 Y32_8 Y32_9)
           (try clear Y5_0 Y5_1 Y5_10 Y5_11 Y5_12 Y5_13 Y5_14 Y5_15 Y5_16 Y5_17 Y5_18 Y5_19 Y5_2 Y5_20 Y5_21 Y5_22 Y5_23 Y5_24 Y5_3 Y5_4 Y5_5 Y5_6 Y5_7 Y5_8 Y5_9)
           (try clear Y7_0 Y7_1 Y7_10 Y7_11 Y7_12 Y7_13 Y7_14 Y7_15 Y7_16 Y7_17 Y7_18 Y7_19 Y7_2 Y7_20 Y7_21 Y7_22 Y7_23 Y7_24 Y7_3 Y7_4 Y7_5 Y7_6 Y7_7 Y7_8 Y7_9)
           (try clear Y9_0 Y9_1 Y9_10 Y9_11 Y9_12 Y9_13 Y9_14 Y9_15 Y9_16 Y9_17 Y9_18 Y9_19 Y9_2 Y9_20 Y9_21 Y9_22 Y9_23 Y9_24 Y9_3 Y9_4 Y9_5 Y9_6 Y9_7 Y9_8 Y9_9)
           try clear p2
           obtain ⟨x3_4, rfl, HA, HK4, BK481, HB⟩ := hrel
           cases gk with
           | zero => exact absurd HA.out (by simp [corebankref34_ranged.l0])
           | succ k4 =>
            have H := HA.out
            clear HA
            simp only [corebankref34_ranged.l0] at H
            by_cases c47 : x3_4 < (l0_23.length : Int)
            ·rw [if_pos c47] at H
             have c47b0 : decide (x3_4 < (l0_23.length : Int)) = true := decide_eq_true c47
             clear c47
             by_cases c48 : 0 ≤ x3_4
             ·rw [if_pos c48] at H
              have c48b0 : decide (0 ≤ x3_4) = true := decide_eq_true c48
              clear c48
              have HC49 := Aside0.mk H
              clear H
              obtain ⟨Z50_0, Z50_1, Z50_2, Z50_3, Z50_4, Z50_5, Z50_6, Z50_7, Z50_8, Z50_9, Z50_10, Z50_11, Z50_12, Z50_13, Z50_14, Z50_15, Z50_16, Z50_17, Z50_18, Z50_19, Z50_20, Z50_21, Z50_22, Z50_23, Z50_24, Y50_0, Y50_1, Y50_2, Y50_3, Y50_4, Y50_5, Y50_6, Y50_7, Y50_8, Y50_9, Y50_10, Y50_11, Y50_12, Y50_13, Y50_14, Y50_15, Y50_16, Y50_17, Y50_18, Y50_19, Y50_20, Y50_21, Y50_22, Y50_23, Y50_24⟩ := cz25_ BK481.out
              have p489 : 0 ≤ (x3_4 : Int) := of_decide_eq_true (by first | (with_reducible assumption) | assumption)
              have q489 : x3_4 < (l0_23.length : Int) := of_decide_eq_true (by first | (with_reducible assumption) | assumption)
              obtain ⟨ad489, e489, hx489_0, hx489_1, hx489_2, hx489_3⟩ := at_T54 HR0_23.out x3_4 p489 q489
              cases e489
              replace hx489_0 := bx_ HB.out hx489_0
              replace hx489_1 := bx_ HB.out hx489_1
              replace hx489_2 := bx_ HB.out hx489_2
              replace hx489_3 := bx_ HB.out hx489_3
              replace p489 := eq_true p489
              replace q489 := eq_true q489
              go_upto_region 11 with (first | ((with_reducible refine gate_load_ (t := 27) rfl ?_); refine ld_ (t := 27) Tryd.underlying27 rfl rfl rfl (by (repeat (first | (with_reducible first | refine blk_drewN ?_ _ | refine blk_drew ?_ | refine blk_alloc ?_ _) | refine blk_far ?_ NB481_490.out _ | refine blk_set ?_ _ _)); (with_reducible first | exact BK481.out)) rfl (by kernel_rfl) ?_) | ((with_reducible refine gate_load_ (t := 27) rfl ?_); refine ldg48_ (t := 27) Tryd.underlying27 rfl (by rfl) rfl (by (repeat (first | (with_reducible first | refine blk_drewN ?_ _ | refine blk_drew ?_ | refine blk_alloc ?_ _) | refine blk_far ?_ NB481_490.out _ | refine blk_set ?_ _ _)); (with_reducible first | exact BK481.out)) rfl (by kernel_rfl) ?_) | ((with_reducible refine gate_dst (N := 4) rfl ?_); (try (refine gate_guard (by rfl) ?_; dsimp only)); refine be_ (N := 4) (cs := #[.int .i64 0, .int .i64 0, .int .i64 0, .int .i64 0]) (t := 54) ?_; intro gb490 hg w51 hbox hb; have n0_ := Aside0.mk (blk_below (qk_ BK481.out) hb); have n1_ := Aside0.mk (below_step (qb1_ GE481.out HB.out) hb); have n2_ := Aside0.mk (hbox); have n3_ := Aside0.mk (bz_ hg (qb1_ GE481.out HB.out) : w.heap.size ≤ gb490); have n4_ := n3_; have n5_ := Aside0.mk (nl_ hg (qk_ BK481.out) : gb481 ≠ gb490); have n6_ := Aside0.mk (ng_ hg (qk_ BK481.out) : gb490 ≠ gb481); clear BK481; clear HB; have BK481 := n0_; have HB := n1_; have BK490 := n2_; have GW490 := n3_; have GE490 := n4_; have NB481_490 := n5_; have NB490_481 := n6_; clear n0_ n1_ n2_ n3_ n4_ n5_ n6_; clear hb hbox hg; have hnb52 := NB490_481.out; have hnc52 := NB481_490.out; obtain ⟨Z53_0, Z53_1, Z53_2, Z53_3, Y53_0, Y53_1, Y53_2, Y53_3⟩ := cz4_ BK490.out))
              (try simp only [Act.put, List.setIfInBounds_toArray, List.set_cons_zero, List.set_cons_succ])
              go_cut [123] (fun v123 wc => ∃ (kq : Nat) (x123_48 : Bool), v123 = .bool x123_48 ∧ Aside0 (corebankref34_ranged.j4 kq x3_4 x123_48 a0_0 a0_1 a0_2 a0_3 a0_4 a0_5 a0_6 a0_7 a0_8 a0_9 a0_10 a0_11 a0_12 a0_13 a0_14 a0_15 a0_16 a0_17 a0_18 a0_19 a0_20 a0_21 a0_22 l0_23 l0_24 = some r) ∧ Aside0 (kq ≤ k4) ∧ Aside0 (wc.heap[gb481]? = some (.cells #[.int .i64 a0_0, .int .i64 a0_1, .int .i64 a0_2, .int .i64 a0_3, .int .i64 a0_4, .int .i64 a0_5, .int .i64 a0_6, .int .i64 a0_7, .int .i64 a0_8, .int .i64 a0_9, .int .i64 a0_10, .int .i64 a0_11, .int .i64 a0_12, .int .i64 a0_13, .int .i64 a0_14, .int .i64 a0_15, .int .i64 a0_16, .int .i64 a0_17, .int .i64 a0_18, .int .i64 a0_19, .int .i64 a0_20, .string a0_21, .string a0_22, (.slice (some ad489) l0_23.length c0_23), (.slice A0_24 l0_24.length c0_24)] 27 (0, 0))) ∧ Aside0 (wc.heap[gb490]? = some (.cells #[.int .i64 ((rd_T54 l0_23 x3_4).f0), .int .i64 ((rd_T54 l0_23 x3_4).f1), .int .i64 ((rd_T54 l0_23 x3_4).f2), .int .i64 ((rd_T54 l0_23 x3_4).f3)] 54 (0, 0))) ∧ Aside0 (Below w.heap.size w wc))
              case first =>
               have H := HC49.out
               clear HC49
               replace H := Option.bind_eq_some_iff.mp H
               obtain ⟨t491, A540, H⟩ := H
               replace H : (if t491 = true then ((corebankref34_within.f ((rd_T54 l0_23 x3_4).f2) 1000000000000).bind fun t492 => (if t492 = true then ((corebankref34_within.f ((rd_T54 l0_23 x3_4).f3) 1000000000000).bind fun t493 => (corebankref34_ranged.j4 k4 x3_4 (!t493) a0_0 a0_1 a0_2 a0_3 a0_4 a0_5 a0_6 a0_7 a0_8 a0_9 a0_10 a0_11 a0_12 a0_13 a0_14 a0_15 a0_16 a0_17 a0_18 a0_19 a0_20 a0_21 a0_22 l0_23 l0_24)) else (corebankref34_ranged.j4 k4 x3_4 true a0_0 a0_1 a0_2 a0_3 a0_4 a0_5 a0_6 a0_7 a0_8 a0_9 a0_10 a0_11 a0_12 a0_13 a0_14 a0_15 a0_16 a0_17 a0_18 a0_19 a0_20 a0_21 a0_22 l0_23 l0_24))) else (corebankref34_ranged.j4 k4 x3_4 true a0_0 a0_1 a0_2 a0_3 a0_4 a0_5 a0_6 a0_7 a0_8 a0_9 a0_10 a0_11 a0_12 a0_13 a0_14 a0_15 a0_16 a0_17 a0_18 a0_19 a0_20 a0_21 a0_22 l0_23 l0_24)) = some r := H
               have A54 := Aside0.mk A540
               clear A540
               by_cases c55 : t491 = true
               ·subst c55
                have H1 : ((corebankref34_within.f ((rd_T54 l0_23 x3_4).f2) 1000000000000).bind fun t492 => (if t492 = true then ((corebankref34_within.f ((rd_T54 l0_23 x3_4).f3) 1000000000000).bind fun t493 => (corebankref34_ranged.j4 k4 x3_4 (!t493) a0_0 a0_1 a0_2 a0_3 a0_4 a0_5 a0_6 a0_7 a0_8 a0_9 a0_10 a0_11 a0_12 a0_13 a0_14 a0_15 a0_16 a0_17 a0_18 a0_19 a0_20 a0_21 a0_22 l0_23 l0_24)) else (corebankref34_ranged.j4 k4 x3_4 true a0_0 a0_1 a0_2 a0_3 a0_4 a0_5 a0_6 a0_7 a0_8 a0_9 a0_10 a0_11 a0_12 a0_13 a0_14 a0_15 a0_16 a0_17 a0_18 a0_19 a0_20 a0_21 a0_22 l0_23 l0_24))) = some r := by rw [if_pos rfl] at H; exact H
                clear H
                have H := H1
                clear H1
                replace H := Option.bind_eq_some_iff.mp H
                obtain ⟨t492, A560, H⟩ := H
                replace H : (if t492 = true then ((corebankref34_within.f ((rd_T54 l0_23 x3_4).f3) 1000000000000).bind fun t493 => (corebankref34_ranged.j4 k4 x3_4 (!t493) a0_0 a0_1 a0_2 a0_3 a0_4 a0_5 a0_6 a0_7 a0_8 a0_9 a0_10 a0_11 a0_12 a0_13 a0_14 a0_15 a0_16 a0_17 a0_18 a0_19 a0_20 a0_21 a0_22 l0_23 l0_24)) else (corebankref34_ranged.j4 k4 x3_4 true a0_0 a0_1 a0_2 a0_3 a0_4 a0_5 a0_6 a0_7 a0_8 a0_9 a0_10 a0_11 a0_12 a0_13 a0_14 a0_15 a0_16 a0_17 a0_18 a0_19 a0_20 a0_21 a0_22 l0_23 l0_24)) = some r := H
                have A56 := Aside0.mk A560
                clear A560
                by_cases c57 : t492 = true
                ·subst c57
                 have H1 : ((corebankref34_within.f ((rd_T54 l0_23 x3_4).f3) 1000000000000).bind fun t493 => (corebankref34_ranged.j4 k4 x3_4 (!t493) a0_0 a0_1 a0_2 a0_3 a0_4 a0_5 a0_6 a0_7 a0_8 a0_9 a0_10 a0_11 a0_12 a0_13 a0_14 a0_15 a0_16 a0_17 a0_18 a0_19 a0_20 a0_21 a0_22 l0_23 l0_24)) = some r := by rw [if_pos rfl] at H; exact H
                 clear H
                 have H := H1
                 clear H1
                 replace H := Option.bind_eq_some_iff.mp H
                 obtain ⟨t493, A580, H⟩ := H
                 replace H : (corebankref34_ranged.j4 k4 x3_4 (!t493) a0_0 a0_1 a0_2 a0_3 a0_4 a0_5 a0_6 a0_7 a0_8 a0_9 a0_10 a0_11 a0_12 a0_13 a0_14 a0_15 a0_16 a0_17 a0_18 a0_19 a0_20 a0_21 a0_22 l0_23 l0_24) = some r := H
                 have A58 := Aside0.mk A580
                 clear A580
                 have H' := Aside0.mk H
                 clear H
                 have hnb59 := NB490_481.out
                 have hnc59 := NB481_490.out
                 obtain ⟨Z60_0, Z60_1, Z60_2, Z60_3, Y60_0, Y60_1, Y60_2, Y60_3⟩ := cz4_ BK490.out
                 go_wp2_with (first | ((with_reducible refine gate_load_ (t := 27) rfl ?_); refine ld_ (t := 27) Tryd.underlying27 rfl rfl rfl (by (repeat (first | (with_reducible first | refine blk_drewN ?_ _ | refine blk_drew ?_ | refine blk_alloc ?_ _) | refine blk_far ?_ NB481_490.out _ | refine blk_set ?_ _ _)); (with_reducible first | exact BK481.out)) rfl (by kernel_rfl) ?_) | ((with_reducible refine gate_load_ (t := 27) rfl ?_); refine ldg48_ (t := 27) Tryd.underlying27 rfl (by rfl) rfl (by (repeat (first | (with_reducible first | refine blk_drewN ?_ _ | refine blk_drew ?_ | refine blk_alloc ?_ _) | refine blk_far ?_ NB481_490.out _ | refine blk_set ?_ _ _)); (with_reducible first | exact BK481.out)) rfl (by kernel_rfl) ?_) | ((with_reducible refine gate_callee (f := 49) rfl ?_); refine goesL_ (some 110) rfl rfl Tryd.func49 (by kernel_rfl) rfl #[.int .i64 ((rd_T54 l0_23 x3_4).f1)] rfl ql_ ?_; (with_reducible refine (corebankref04_Valid.calls ((rd_T54 l0_23 x3_4).f1) true _ A54.out).mono ?_); rintro e w' ⟨rfl, ⟨nd, rfl⟩⟩; refine ⟨_, rfl, ?_⟩) | (go_at_call 48; (with_reducible refine (corebankref34_within.calls ((rd_T54 l0_23 x3_4).f2) 1000000000000 true _ A56.out).mono ?_); rintro e w' ⟨rfl, ⟨nd, rfl⟩⟩) | (go_at_call 48; (with_reducible refine (corebankref34_within.calls ((rd_T54 l0_23 x3_4).f3) 1000000000000 t493 _ A58.out).mono ?_); rintro e w' ⟨rfl, ⟨nd, rfl⟩⟩))
                 go_meet
                 case rel => exact ⟨_, (!t493), qs_, H', ⟨by have := HJ1.out; have := HJ17.out; have := HJ39.out; have := HK4.out; first | omega | exact Nat.le_refl _⟩, ⟨qffff_ NB481_490.out NB481_490.out NB481_490.out NB481_490.out BK481.out⟩, ⟨by (with_reducible repeat (first | refine blk_drewN ?_ _ | refine blk_drew ?_ | refine blk_alloc ?_ _)); refine blk_put (cs := #[.int .i64 ((rd_T54 l0_23 x3_4).f0), .int .i64 ((rd_T54 l0_23 x3_4).f1), .int .i64 ((rd_T54 l0_23 x3_4).f2), .int .i64 0]) ?_ 3 _ rfl; (with_reducible repeat (first | refine blk_drewN ?_ _ | refine blk_drew ?_ | refine blk_alloc ?_ _)); refine blk_put (cs := #[.int .i64 ((rd_T54 l0_23 x3_4).f0), .int .i64 ((rd_T54 l0_23 x3_4).f1), .int .i64 0, .int .i64 0]) ?_ 2 _ rfl; (with_reducible repeat (first | refine blk_drewN ?_ _ | refine blk_drew ?_ | refine blk_alloc ?_ _)); refine blk_put (cs := #[.int .i64 ((rd_T54 l0_23 x3_4).f0), .int .i64 0, .int .i64 0, .int .i64 0]) ?_ 1 _ rfl; (with_reducible repeat (first | refine blk_drewN ?_ _ | refine blk_drew ?_ | refine blk_alloc ?_ _)); refine blk_put (cs := #[.int .i64 0, .int .i64 0, .int .i64 0, .int .i64 0]) ?_ 0 _ rfl; (with_reducible repeat (first | refine blk_drewN ?_ _ | refine blk_drew ?_ | refine blk_alloc ?_ _)); exact BK490.out⟩, ⟨qb2_ GE481.out GE490.out HB.out⟩⟩
                ·replace c57 := Bool.eq_false_iff.mpr c57
                 subst c57
                 have H1 : (corebankref34_ranged.j4 k4 x3_4 true a0_0 a0_1 a0_2 a0_3 a0_4 a0_5 a0_6 a0_7 a0_8 a0_9 a0_10 a0_11 a0_12 a0_13 a0_14 a0_15 a0_16 a0_17 a0_18 a0_19 a0_20 a0_21 a0_22 l0_23 l0_24) = some r := by rw [if_neg (show ¬ (false = true) by decide)] at H; exact H
                 clear H
                 have H := H1
                 clear H1
                 have H' := Aside0.mk H
                 clear H
                 have hnb61 := NB490_481.out
                 have hnc61 := NB481_490.out
                 obtain ⟨Z62_0, Z62_1, Z62_2, Z62_3, Y62_0, Y62_1, Y62_2, Y62_3⟩ := cz4_ BK490.out
                 go_wp2_with (first | ((with_reducible refine gate_load_ (t := 27) rfl ?_); refine ld_ (t := 27) Tryd.underlying27 rfl rfl rfl (by (repeat (first | (with_reducible first | refine blk_drewN ?_ _ | refine blk_drew ?_ | refine blk_alloc ?_ _) | refine blk_far ?_ NB481_490.out _ | refine blk_set ?_ _ _)); (with_reducible first | exact BK481.out)) rfl (by kernel_rfl) ?_) | ((with_reducible refine gate_load_ (t := 27) rfl ?_); refine ldg48_ (t := 27) Tryd.underlying27 rfl (by rfl) rfl (by (repeat (first | (with_reducible first | refine blk_drewN ?_ _ | refine blk_drew ?_ | refine blk_alloc ?_ _) | refine blk_far ?_ NB481_490.out _ | refine blk_set ?_ _ _)); (with_reducible first | exact BK481.out)) rfl (by kernel_rfl) ?_) | ((with_reducible refine gate_callee (f := 49) rfl ?_); refine goesL_ (some 110) rfl rfl Tryd.func49 (by kernel_rfl) rfl #[.int .i64 ((rd_T54 l0_23 x3_4).f1)] rfl ql_ ?_; (with_reducible refine (corebankref04_Valid.calls ((rd_T54 l0_23 x3_4).f1) true _ A54.out).mono ?_); rintro e w' ⟨rfl, ⟨nd, rfl⟩⟩; refine ⟨_, rfl, ?_⟩) | (go_at_call 48; (with_reducible refine (corebankref34_within.calls ((rd_T54 l0_23 x3_4).f2) 1000000000000 false _ A56.out).mono ?_); rintro e w' ⟨rfl, ⟨nd, rfl⟩⟩))
                 go_meet
                 case rel => exact ⟨_, (true), qs_, H', ⟨by have := HJ1.out; have := HJ17.out; have := HJ39.out; have := HK4.out; first | omega | exact Nat.le_refl _⟩, ⟨qffff_ NB481_490.out NB481_490.out NB481_490.out NB481_490.out BK481.out⟩, ⟨by (with_reducible repeat (first | refine blk_drewN ?_ _ | refine blk_drew ?_ | refine blk_alloc ?_ _)); refine blk_put (cs := #[.int .i64 ((rd_T54 l0_23 x3_4).f0), .int .i64 ((rd_T54 l0_23 x3_4).f1), .int .i64 ((rd_T54 l0_23 x3_4).f2), .int .i64 0]) ?_ 3 _ rfl; (with_reducible repeat (first | refine blk_drewN ?_ _ | refine blk_drew ?_ | refine blk_alloc ?_ _)); refine blk_put (cs := #[.int .i64 ((rd_T54 l0_23 x3_4).f0), .int .i64 ((rd_T54 l0_23 x3_4).f1), .int .i64 0, .int .i64 0]) ?_ 2 _ rfl; (with_reducible repeat (first | refine blk_drewN ?_ _ | refine blk_drew ?_ | refine blk_alloc ?_ _)); refine blk_put (cs := #[.int .i64 ((rd_T54 l0_23 x3_4).f0), .int .i64 0, .int .i64 0, .int .i64 0]) ?_ 1 _ rfl; (with_reducible repeat (first | refine blk_drewN ?_ _ | refine blk_drew ?_ | refine blk_alloc ?_ _)); refine blk_put (cs := #[.int .i64 0, .int .i64 0, .int .i64 0, .int .i64 0]) ?_ 0 _ rfl; (with_reducible repeat (first | refine blk_drewN ?_ _ | refine blk_drew ?_ | refine blk_alloc ?_ _)); exact BK490.out⟩, ⟨qb2_ GE481.out GE490.out HB.out⟩⟩
               ·replace c55 := Bool.eq_false_iff.mpr c55
                subst c55
                have H1 : (corebankref34_ranged.j4 k4 x3_4 true a0_0 a0_1 a0_2 a0_3 a0_4 a0_5 a0_6 a0_7 a0_8 a0_9 a0_10 a0_11 a0_12 a0_13 a0_14 a0_15 a0_16 a0_17 a0_18 a0_19 a0_20 a0_21 a0_22 l0_23 l0_24) = some r := by rw [if_neg (show ¬ (false = true) by decide)] at H; exact H
                clear H
                have H := H1
                clear H1
                have H' := Aside0.mk H
                clear H
                have hnb63 := NB490_481.out
                have hnc63 := NB481_490.out
                obtain ⟨Z64_0, Z64_1, Z64_2, Z64_3, Y64_0, Y64_1, Y64_2, Y64_3⟩ := cz4_ BK490.out
                go_wp2_with (first | ((with_reducible refine gate_load_ (t := 27) rfl ?_); refine ld_ (t := 27) Tryd.underlying27 rfl rfl rfl (by (repeat (first | (with_reducible first | refine blk_drewN ?_ _ | refine blk_drew ?_ | refine blk_alloc ?_ _) | refine blk_far ?_ NB481_490.out _ | refine blk_set ?_ _ _)); (with_reducible first | exact BK481.out)) rfl (by kernel_rfl) ?_) | ((with_reducible refine gate_load_ (t := 27) rfl ?_); refine ldg48_ (t := 27) Tryd.underlying27 rfl (by rfl) rfl (by (repeat (first | (with_reducible first | refine blk_drewN ?_ _ | refine blk_drew ?_ | refine blk_alloc ?_ _) | refine blk_far ?_ NB481_490.out _ | refine blk_set ?_ _ _)); (with_reducible first | exact BK481.out)) rfl (by kernel_rfl) ?_) | ((with_reducible refine gate_callee (f := 49) rfl ?_); refine goesL_ (some 110) rfl rfl Tryd.func49 (by kernel_rfl) rfl #[.int .i64 ((rd_T54 l0_23 x3_4).f1)] rfl ql_ ?_; (with_reducible refine (corebankref04_Valid.calls ((rd_T54 l0_23 x3_4).f1) false _ A54.out).mono ?_); rintro e w' ⟨rfl, ⟨nd, rfl⟩⟩; refine ⟨_, rfl, ?_⟩))
                go_meet
                case rel => exact ⟨_, (true), qs_, H', ⟨by have := HJ1.out; have := HJ17.out; have := HJ39.out; have := HK4.out; first | omega | exact Nat.le_refl _⟩, ⟨qffff_ NB481_490.out NB481_490.out NB481_490.out NB481_490.out BK481.out⟩, ⟨by (with_reducible repeat (first | refine blk_drewN ?_ _ | refine blk_drew ?_ | refine blk_alloc ?_ _)); refine blk_put (cs := #[.int .i64 ((rd_T54 l0_23 x3_4).f0), .int .i64 ((rd_T54 l0_23 x3_4).f1), .int .i64 ((rd_T54 l0_23 x3_4).f2), .int .i64 0]) ?_ 3 _ rfl; (with_reducible repeat (first | refine blk_drewN ?_ _ | refine blk_drew ?_ | refine blk_alloc ?_ _)); refine blk_put (cs := #[.int .i64 ((rd_T54 l0_23 x3_4).f0), .int .i64 ((rd_T54 l0_23 x3_4).f1), .int .i64 0, .int .i64 0]) ?_ 2 _ rfl; (with_reducible repeat (first | refine blk_drewN ?_ _ | refine blk_drew ?_ | refine blk_alloc ?_ _)); refine blk_put (cs := #[.int .i64 ((rd_T54 l0_23 x3_4).f0), .int .i64 0, .int .i64 0, .int .i64 0]) ?_ 1 _ rfl; (with_reducible repeat (first | refine blk_drewN ?_ _ | refine blk_drew ?_ | refine blk_alloc ?_ _)); refine blk_put (cs := #[.int .i64 0, .int .i64 0, .int .i64 0, .int .i64 0]) ?_ 0 _ rfl; (with_reducible repeat (first | refine blk_drewN ?_ _ | refine blk_drew ?_ | refine blk_alloc ?_ _)); exact BK490.out⟩, ⟨qb2_ GE481.out GE490.out HB.out⟩⟩
              case rest =>
               clear HC49
               try clear p2
               try clear c4
               try clear p4
               try clear q4
               try clear hx4
               try clear c5
               try clear c6
               try clear c47
               try clear c47b0
               try clear c48
               try clear c48b0
               try clear p48
               try clear q48
               try clear hx48
               try clear c49
               try clear c52
               try clear c55
               try clear c57
               try clear c59
               try clear c61
               try clear c63
               (try clear Z37_6 Z37_7 Z37_8 Z37_9 Y37_0 Y37_1 Y37_10 Y37_11 Y37_12 Y37_13 Y37_14 Y37_15 Y37_16 Y37_17 Y37_18 Y37_19 Y37_2 Y37_20 Y37_21 Y37_22 Y37_23 Y37_24 Y37_3 Y37_4 Y37_5 Y37_6 Y37_7 Y37_8 Y37_9)
               (try clear Z38_0 Z38_1 Z38_10 Z38_11 Z38_12 Z38_13 Z38_14 Z38_15 Z38_16 Z38_17 Z38_18 Z38_19 Z38_2 Z38_20 Z38_21 Z38_22 Z38_23 Z38_24 Z38_3 Z38_4 Z38_5 Z38_6 Z38_7 Z38_8 Z38_9 Y38_0 Y38_1 Y38_10 Y38_11 Y38_12 Y38_13 Y38_14 Y38_15 Y38_16 Y38_17 Y38_18 Y38_19 Y38_2 Y38_20 Y38_21 Y38_22 Y38_23 Y38_24 Y38_3 Y38_4 Y38_5 Y38_6 Y38_7 Y38_8 Y38_9)
               (try clear Z42_0 Z42_1 Z42_10 Z42_11 Z42_12 Z42_13 Z42_14 Z42_15 Z42_16 Z42_17 Z42_18 Z42_19 Z42_2 Z42_20 Z42_21 Z42_22 Z42_23 Z42_24 Z42_3 Z42_4 Z42_5 Z42_6 Z42_7 Z42_8 Z42_9 Y42_0 Y42_1 Y42_10 Y42_11 Y42_12 Y42_13 Y42_14 Y42_15 Y42_16 Y42_17 Y42_18 Y42_19 Y42_2 Y42_20 Y42_21 Y42_22 Y42_23 Y42_24 Y42_3 Y42_4 Y42_5 Y42_6 Y42_7 Y42_8 Y42_9)
               (try clear Z44_0 Z44_1 Z44_10 Z44_11 Z44_12 Z44_13 Z44_14 Z44_15 Z44_16 Z44_17 Z44_18 Z44_19 Z44_2 Z44_20 Z44_21 Z44_22 Z44_23 Z44_24 Z44_3 Z44_4 Z44_5 Z44_6 Z44_7 Z44_8 Z44_9 Y44_0 Y44_1 Y44_10 Y44_11 Y44_12 Y44_13 Y44_14 Y44_15 Y44_16 Y44_17 Y44_18 Y44_19 Y44_2 Y44_20 Y44_21 Y44_22 Y44_23 Y44_24 Y44_3 Y44_4 Y44_5 Y44_6 Y44_7 Y44_8 Y44_9)
               (try clear Z45_0 Z45_1 Z45_10 Z45_11 Z45_12 Z45_13 Z45_14 Z45_15 Z45_16 Z45_17 Z45_18 Z45_19 Z45_2 Z45_20 Z45_21 Z45_22 Z45_23 Z45_24 Z45_3 Z45_4 Z45_5 Z45_6 Z45_7 Z45_8 Z45_9 Y45_0 Y45_1 Y45_10 Y45_11 Y45_12 Y45_13 Y45_14 Y45_15 Y45_16 Y45_17 Y45_18 Y45_19 Y45_2 Y45_20 Y45_21 Y45_22 Y45_23 Y45_24 Y45_3 Y45_4 Y45_5 Y45_6 Y45_7 Y45_8 Y45_9)
               (try clear Z50_0 Z50_1 Z50_10 Z50_11 Z50_12 Z50_13 Z50_14 Z50_15 Z50_16 Z50_17 Z50_18 Z50_19 Z50_2 Z50_20 Z50_21 Z50_22 Z50_23 Z50_24 Z50_3 Z50_4 Z50_5 Z50_6 Z50_7 Z50_8 Z50_9 Y50_0 Y50_1 Y50_10 Y50_11 Y50_12 Y50_13 Y50_14 Y50_15 Y50_16 Y50_17 Y50_18 Y50_19 Y50_2 Y50_20 Y50_21 Y50_22 Y50_23 Y50_24 Y50_3 Y50_4 Y50_5 Y50_6 Y50_7 Y50_8 Y50_9)
               (try clear Z53_0 Z53_1 Z53_2 Z53_3 Y53_0 Y53_1 Y53_2 Y53_3)
               (try clear Z60_0 Z60_1 Z60_2 Z60_3 Y60_0 Y60_1 Y60_2 Y60_3)
               (try clear Z62_0 Z62_1 Z62_2 Z62_3 Y62_0 Y62_1 Y62_2 Y62_3)
               (try clear Z64_0 Z64_1 Z64_2 Z64_3 Y64_0 Y64_1 Y64_2 Y64_3)
               (try clear Y16_9)
               (try clear Y32_0 Y32_1 Y32_10 Y32_11 Y32_12 Y32_13 Y32_14 Y32_15 Y32_16 Y32_17 Y32_18 Y32_19 Y32_2 Y32_20 Y32_21 Y32_22 Y32_23 Y32_24 Y32_3 Y32_4 Y32_5 Y32_6 Y32_7 Y32_8 Y32_9)
               (try clear Y33_0 Y33_1 Y33_10 Y33_11 Y33_12 Y33_13 Y33_14 Y33_15 Y33_16 Y33_17 Y33_18 Y33_19 Y33_2 Y33_20 Y33_21 Y33_22 Y33_23 Y33_24 Y33_3 Y33_4 Y33_5 Y33_6 Y33_7 Y33_8 Y33_9)
               (try clear Y34_0 Y34_1 Y34_10 Y34_11 Y34_12 Y34_13 Y34_14 Y34_15 Y34_16 Y34_17 Y34_18 Y34_19 Y34_2 Y34_20 Y34_21 Y34_22 Y34_23 Y34_24 Y34_3 Y34_4 Y34_5 Y34_6 Y34_7 Y34_8 Y34_9)
               (try clear Y35_0 Y35_1 Y35_10 Y35_11 Y35_12 Y35_13 Y35_14 Y35_15 Y35_16 Y35_17 Y35_18 Y35_19 Y35_2 Y35_20 Y35_21 Y35_22 Y35_23 Y35_24 Y35_3 Y35_4 Y35_5 Y35_6 Y35_7 Y35_8 Y35_9)
               (try clear Y36_0 Y36_1 Y36_10 Y36_11 Y36_12 Y36_13 Y36_14 Y36_15 Y36_16 Y36_17 Y36_18 Y36_19 Y36_2 Y36_20 Y36_21 Y36_22 Y36_23 Y36_24 Y36_3 Y36_4 Y36_5 Y36_6 Y36_7 Y36_8 Y36_9)
               (try clear Y5_0 Y5_1 Y5_10 Y5_11 Y5_12 Y5_13 Y5_14 Y5_15 Y5_16 Y5_17 Y5_18 Y5_19 Y5_2 Y5_20 Y5_21 Y5_22 Y5_23 Y5_24 Y5_3 Y5_4 Y5_5 Y5_6 Y5_7 Y5_8 Y5_9)
               (try clear Y7_0 Y7_1 Y7_10 Y7_11 Y7_12 Y7_13 Y7_14 Y7_15 Y7_16 Y7_17 Y7_18 Y7_19 Y7_2 Y7_20 Y7_21 Y7_22 Y7_23 Y7_24 Y7_3 Y7_4 Y7_5 Y7_6 Y7_7 Y7_8 Y7_9)
               (try clear Y9_0 Y9_1 Y9_10 Y9_11 Y9_12 Y9_13 Y9_14 Y9_15 Y9_16 Y9_17 Y9_18 Y9_19 Y9_2 Y9_20 Y9_21 Y9_22 Y9_23 Y9_24 Y9_3 Y9_4 Y9_5 Y9_6 Y9_7 Y9_8 Y9_9)
               try clear hx489_0
               try clear hx489_1
               try clear hx489_2
               try clear hx489_3
               try clear p2
               try clear p489
               try clear q489
               obtain ⟨kq, x123_48, rfl, HA, HJ48, BK481, BK490, HB⟩ := hcut
               cases kq with
               | zero => exact absurd HA.out (by simp [corebankref34_ranged.j4])
               | succ kj48 =>
                have H := HA.out
                clear HA
                simp only [corebankref34_ranged.j4] at H
                by_cases c65 : x123_48 = true
                ·subst c65
                 have H1 : (some false) = some r := by rw [if_pos rfl] at H; exact H
                 clear H
                 have H := H1
                 clear H1
                 obtain rfl := Option.some.inj H
                 go_wp2
                 go_ret
                 exact ⟨qe_, qb2_ GE481.out GE490.out HB.out⟩
                ·replace c65 := Bool.eq_false_iff.mpr c65
                 subst c65
                 have H1 : (corebankref34_ranged.l0 kj48 (wrap64 (x3_4 + 1)) a0_0 a0_1 a0_2 a0_3 a0_4 a0_5 a0_6 a0_7 a0_8 a0_9 a0_10 a0_11 a0_12 a0_13 a0_14 a0_15 a0_16 a0_17 a0_18 a0_19 a0_20 a0_21 a0_22 l0_23 l0_24) = some r := by rw [if_neg (show ¬ (false = true) by decide)] at H; exact H
                 clear H
                 have H := H1
                 clear H1
                 have H' := Aside0.mk H
                 clear H
                 go_wp2
                 go_roundg kj48
                 case measure => have := HJ1.out; have := HJ17.out; have := HJ39.out; have := HK4.out; have := HJ48.out; omega
                 case rel => exact ⟨(wrap64 (x3_4 + 1)), qs_, H', ⟨by have := HJ1.out; have := HJ17.out; have := HJ39.out; have := HK4.out; have := HJ48.out; omega⟩, ⟨qk_ BK481.out⟩, ⟨qb2_ GE481.out GE490.out HB.out⟩⟩
             ·rw [if_neg c48] at H
              exact absurd H (by simp)
            ·rw [if_neg c47] at H
             have c47b0 : decide (x3_4 < (l0_23.length : Int)) = false := decide_eq_false c47
             clear c47
             obtain rfl := Option.some.inj H
             obtain ⟨Z66_0, Z66_1, Z66_2, Z66_3, Z66_4, Z66_5, Z66_6, Z66_7, Z66_8, Z66_9, Z66_10, Z66_11, Z66_12, Z66_13, Z66_14, Z66_15, Z66_16, Z66_17, Z66_18, Z66_19, Z66_20, Z66_21, Z66_22, Z66_23, Z66_24, Y66_0, Y66_1, Y66_2, Y66_3, Y66_4, Y66_5, Y66_6, Y66_7, Y66_8, Y66_9, Y66_10, Y66_11, Y66_12, Y66_13, Y66_14, Y66_15, Y66_16, Y66_17, Y66_18, Y66_19, Y66_20, Y66_21, Y66_22, Y66_23, Y66_24⟩ := cz25_ BK481.out
             go_wp2
             go_ret
             exact ⟨qe_, qb1_ GE481.out HB.out⟩
end Go.Proofs.YtjkjiibhdpcpkaaDoor.PS
end
