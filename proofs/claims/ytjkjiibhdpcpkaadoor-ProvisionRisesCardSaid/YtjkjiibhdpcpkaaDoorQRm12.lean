import Derived.Test.YtjkjiibhdpcpkaaDoorQRm2
import Derived.Test.YtjkjiibhdpcpkaaDoorQRm8
import Derived.Test.YtjkjiibhdpcpkaaDoorQRm10
import Derived.Test.YtjkjiibhdpcpkaaDoorQRm11
section
namespace Go.Proofs.YtjkjiibhdpcpkaaDoor.PS
open Go.RowKit Go.Proofs.YtjkjiibhdpcpkaaDoorW.PrintWords Go.Proofs.YtjkjiibhdpcpkaaDoorW.PrintLast
set_option linter.unusedVariables false
set_option linter.unusedSimpArgs false
theorem ldg51_ {P : Program} {ops : Array Oper} {rest : List Oper} {o : Oper} {a : Act} {Q : Exit → Act → World → Prop} {W : World} {t : TypeId} {b : Tmp} {g : Nat} {cs : Array Value} {d : TypeDesc} (hu : P.underlying t = some d) (ho : o.op = .load t (.tmp b)) (hw : Region.wanted o (yielded ops a.tmps) = true)
  (hx : a.eval (.tmp b) = .pointer (some ⟨g, 0, none⟩)) (hb : W.heap[g]? = some (.cells cs t (0, 0))) (hd : (match d with | .struct _ | .array _ _ => true | _ => false) = true) (hi : (P.info? t).map (·.size) = some cs.size)
  (h : wpList P ops Q rest (a.put o.dst (.agg cs)) W) : wpList P ops Q (o :: rest) a W := by
  refine BigFrame.wpList_want hw fun K hK => ?_
  have hl := ld_of_cells (P := P) (w := W) (g := g) (t := t) cs.toList (fun j v hv => by rw [cell_of_row W g j cs t (0, 0) hb]; simpa using hv) hu hd (by simpa using hi)
  have hr : (execOp a.eval o).run P W = .ok (.value (.agg cs)) W := ldx_ ho hx (by simpa using hl)
  unfold Oper.wp
  rw [hr]
  exact hK _ _ h
mutual
def corebankref34_Check.l0 : Nat → Int → Int → Int → Int → Int → Int → Int → Int → Int → Int → Int → Int → Int → Int → Int → Int → Int → Int → Int → Int → Int → Int → ByteArray → ByteArray → List (S54) → List (S50) → Option (Int)
 | 0, _, _, _, _, _, _, _, _, _, _, _, _, _, _, _, _, _, _, _, _, _, _, _, _, _, _ => none
 | k + 1, x3, x501000, x501001, x501002, x501003, x501004, x501005, x501006, x501007, x501008, x501009, x501010, x501011, x501012, x501013, x501014, x501015, x501016, x501017, x501018, x501019, x501020, x501021, x501022, x501023, x501024 => if x3 < (x501023.length : Int) then (if 0 ≤ x3 then (if ((rd_T54 x501023 x3).f0) = (wrap64 (x3 + 1)) then (if x3 > 0 then (if 0 ≤ (wrap64 (x3 - 1)) then (if (wrap64 (x3 - 1)) < (x501023.length : Int) then (corebankref34_Check.j1 k x3 (decide (((rd_T54 x501023 x3).f1) < ((rd_T54 x501023 (wrap64 (x3 - 1))).f1))) x501000 x501001 x501002 x501003 x501004 x501005 x501006 x501007 x501008 x501009 x501010 x501011 x501012 x501013 x501014 x501015 x501016 x501017 x501018 x501019 x501020 x501021 x501022 x501023 x501024) else (none)) else (none)) else (corebankref34_Check.j1 k x3 false x501000 x501001 x501002 x501003 x501004 x501005 x501006 x501007 x501008 x501009 x501010 x501011 x501012 x501013 x501014 x501015 x501016 x501017 x501018 x501019 x501020 x501021 x501022 x501023 x501024)) else (corebankref34_Check.j1 k x3 true x501000 x501001 x501002 x501003 x501004 x501005 x501006 x501007 x501008 x501009 x501010 x501011 x501012 x501013 x501014 x501015 x501016 x501017 x501018 x501019 x501020 x501021 x501022 x501023 x501024)) else (none)) else ((corebankref34_Principal.f k x501000 x501001 x501002 x501003 x501004 x501005 x501006 x501007 x501008 x501009 x501010 x501011 x501012 x501013 x501014 x501015 x501016 x501017 x501018 x501019 x501020 x501021 x501022 x501023 x501024 9223372036854775807).bind fun t505 => (if x501003 > t505 then (corebankref34_Check.j2 k true x501000 x501001 x501002 x501003 x501004 x501005 x501006 x501007 x501008 x501009 x501010 x501011 x501012 x501013 x501014 x501015 x501016 x501017 x501018 x501019 x501020 x501021 x501022 x501023 x501024) else ((corebankref34_Interest.f k x501000 x501001 x501002 x501003 x501004 x501005 x501006 x501007 x501008 x501009 x501010 x501011 x501012 x501013 x501014 x501015 x501016 x501017 x501018 x501019 x501020 x501021 x501022 x501023 x501024 9223372036854775807).bind fun t506 => (if x501004 > t506 then (corebankref34_Check.j2 k true x501000 x501001 x501002 x501003 x501004 x501005 x501006 x501007 x501008 x501009 x501010 x501011 x501012 x501013 x501014 x501015 x501016 x501017 x501018 x501019 x501020 x501021 x501022 x501023 x501024) else (corebankref34_Check.j2 k (decide (x501010 > x501009)) x501000 x501001 x501002 x501003 x501004 x501005 x501006 x501007 x501008 x501009 x501010 x501011 x501012 x501013 x501014 x501015 x501016 x501017 x501018 x501019 x501020 x501021 x501022 x501023 x501024)))))
def corebankref34_Check.j1 : Nat → Int → Bool → Int → Int → Int → Int → Int → Int → Int → Int → Int → Int → Int → Int → Int → Int → Int → Int → Int → Int → Int → Int → Int → ByteArray → ByteArray → List (S54) → List (S50) → Option (Int)
 | 0, _, _, _, _, _, _, _, _, _, _, _, _, _, _, _, _, _, _, _, _, _, _, _, _, _, _, _ => none
 | k + 1, x3, x42, x501000, x501001, x501002, x501003, x501004, x501005, x501006, x501007, x501008, x501009, x501010, x501011, x501012, x501013, x501014, x501015, x501016, x501017, x501018, x501019, x501020, x501021, x501022, x501023, x501024 => if x42 = true then (some 10) else (corebankref34_Check.l0 k (wrap64 (x3 + 1)) x501000 x501001 x501002 x501003 x501004 x501005 x501006 x501007 x501008 x501009 x501010 x501011 x501012 x501013 x501014 x501015 x501016 x501017 x501018 x501019 x501020 x501021 x501022 x501023 x501024)
def corebankref34_Check.j2 : Nat → Bool → Int → Int → Int → Int → Int → Int → Int → Int → Int → Int → Int → Int → Int → Int → Int → Int → Int → Int → Int → Int → Int → ByteArray → ByteArray → List (S54) → List (S50) → Option (Int)
 | 0, _, _, _, _, _, _, _, _, _, _, _, _, _, _, _, _, _, _, _, _, _, _, _, _, _, _ => none
 | k + 1, x61, x501000, x501001, x501002, x501003, x501004, x501005, x501006, x501007, x501008, x501009, x501010, x501011, x501012, x501013, x501014, x501015, x501016, x501017, x501018, x501019, x501020, x501021, x501022, x501023, x501024 => if x61 = true then (some 25) else (if (x501024.length : Int) = 0 then ((corebankref34_Principal.f k x501000 x501001 x501002 x501003 x501004 x501005 x501006 x501007 x501008 x501009 x501010 x501011 x501012 x501013 x501014 x501015 x501016 x501017 x501018 x501019 x501020 x501021 x501022 x501023 x501024 9223372036854775807).bind fun t507 => (if t507 = x501012 then (if x501002 = 3 then (corebankref34_Check.j3 k false x501000 x501001 x501002 x501003 x501004 x501005 x501006 x501007 x501008 x501009 x501010 x501011 x501012 x501013 x501014 x501015 x501016 x501017 x501018 x501019 x501020 x501021 x501022 x501023 x501024) else ((corebankref34_Left.f k x501000 x501001 x501002 x501003 x501004 x501005 x501006 x501007 x501008 x501009 x501010 x501011 x501012 x501013 x501014 x501015 x501016 x501017 x501018 x501019 x501020 x501021 x501022 x501023 x501024).bind fun t508 => (corebankref34_Check.j3 k (t508 != (x501002 == 1)) x501000 x501001 x501002 x501003 x501004 x501005 x501006 x501007 x501008 x501009 x501010 x501011 x501012 x501013 x501014 x501015 x501016 x501017 x501018 x501019 x501020 x501021 x501022 x501023 x501024))) else (corebankref34_Check.j3 k true x501000 x501001 x501002 x501003 x501004 x501005 x501006 x501007 x501008 x501009 x501010 x501011 x501012 x501013 x501014 x501015 x501016 x501017 x501018 x501019 x501020 x501021 x501022 x501023 x501024))) else (if x501002 = 3 then (corebankref34_Check.j3 k false x501000 x501001 x501002 x501003 x501004 x501005 x501006 x501007 x501008 x501009 x501010 x501011 x501012 x501013 x501014 x501015 x501016 x501017 x501018 x501019 x501020 x501021 x501022 x501023 x501024) else ((corebankref34_Left.f k x501000 x501001 x501002 x501003 x501004 x501005 x501006 x501007 x501008 x501009 x501010 x501011 x501012 x501013 x501014 x501015 x501016 x501017 x501018 x501019 x501020 x501021 x501022 x501023 x501024).bind fun t509 => (corebankref34_Check.j3 k (t509 != (x501002 == 1)) x501000 x501001 x501002 x501003 x501004 x501005 x501006 x501007 x501008 x501009 x501010 x501011 x501012 x501013 x501014 x501015 x501016 x501017 x501018 x501019 x501020 x501021 x501022 x501023 x501024))))
def corebankref34_Check.j3 : Nat → Bool → Int → Int → Int → Int → Int → Int → Int → Int → Int → Int → Int → Int → Int → Int → Int → Int → Int → Int → Int → Int → Int → ByteArray → ByteArray → List (S54) → List (S50) → Option (Int)
 | 0, _, _, _, _, _, _, _, _, _, _, _, _, _, _, _, _, _, _, _, _, _, _, _, _, _, _ => none
 | k + 1, x86, x501000, x501001, x501002, x501003, x501004, x501005, x501006, x501007, x501008, x501009, x501010, x501011, x501012, x501013, x501014, x501015, x501016, x501017, x501018, x501019, x501020, x501021, x501022, x501023, x501024 => if x86 = true then (some 25) else (if x501002 = 3 then (corebankref34_Check.j4 k false) else (if x501009 = 0 then (corebankref34_Check.j4 k (x501010 != 0)) else (corebankref34_Check.j4 k true)))
def corebankref34_Check.j4 : Nat → Bool → Option (Int)
 | 0, _ => none
 | k + 1, x99 => if x99 = true then (some 25) else (some 0)
end
def corebankref34_Check.f (k : Nat) (a0_0 a0_1 a0_2 a0_3 a0_4 a0_5 a0_6 a0_7 a0_8 a0_9 a0_10 a0_11 a0_12 a0_13 a0_14 a0_15 a0_16 a0_17 a0_18 a0_19 a0_20 : Int) (a0_21 a0_22 : ByteArray) (l0_23 : List (S54)) (l0_24 : List (S50)) : Option (Int) := (corebankref34_ranged.f k a0_0 a0_1 a0_2 a0_3 a0_4 a0_5 a0_6 a0_7 a0_8 a0_9 a0_10 a0_11 a0_12 a0_13 a0_14 a0_15 a0_16 a0_17 a0_18 a0_19 a0_20 a0_21 a0_22 l0_23 l0_24).bind fun t501 => (if t501 = true then (corebankref34_Check.l0 k 0 a0_0 a0_1 a0_2 a0_3 a0_4 a0_5 a0_6 a0_7 a0_8 a0_9 a0_10 a0_11 a0_12 a0_13 a0_14 a0_15 a0_16 a0_17 a0_18 a0_19 a0_20 a0_21 a0_22 l0_23 l0_24) else (some 1))
def corebankref34_Check.T6 : Bool × List (List Nat × List Nat) := (true, [([], []), ([0], [0]), ([], []), ([1, 2], [1, 2]), ([3], [3]), ([4], [4]), ([], []), ([6], [6]), ([5, 7], [5, 7]), ([8], [8]), ([9], [9]), ([10, 9], [9, 10]), ([11, 9, 9], [9, 11]), ([12], [12]), ([13, 12], [12, 13]), ([12], [12]), ([14, 15, 12], [12, 14, 15]), ([16, 12], [12, 16]), ([17, 12], [12, 17]), ([12], [12]), ([19, 12], [12, 19]), ([12], [12]), ([21, 12], [12, 21]), ([20, 22, 12], [12, 20, 22]), ([23, 12], [12, 23]), ([24, 12], [12, 24]), ([18, 25, 12], [12, 18, 25]), ([12, 26, 9], [9, 12, 26]), ([9, 27], [9, 27])])
def corebankref34_Check.B6 : List Nat := [0, 1, 0, 7, 15, 31, 0, 64, 255, 511, 1023, 2047, 4095, 8191, 16383, 8191, 65535, 131071, 262143, 8191, 532479, 8191, 2105343, 7872511, 16261119, 33038335, 67108863, 134217727, 268435455]
theorem corebankref34_Check.tab6 : rtab .any (opsOf Tryd.f22 6) = corebankref34_Check.T6 := by kernel_rfl
theorem corebankref34_Check.bits6 : waitsOk corebankref34_Check.T6.2 corebankref34_Check.B6 = true := by kernel_rfl
def corebankref34_Check.T8 : Bool × List (List Nat × List Nat) := (true, [([], []), ([0], [0]), ([], []), ([2], [2]), ([1, 3], [1, 3]), ([4, 3], [4]), ([5], [5]), ([6, 5], [5, 6]), ([5], [5]), ([8, 5, 5], [5, 8]), ([7, 9, 5], [5, 7, 9]), ([5, 10], [5, 10]), ([11, 9], [11]), ([12], [12]), ([13, 12], [12, 13]), ([12], [12]), ([15, 12], [12, 15]), ([14, 16, 12], [12, 14, 16]), ([12, 17], [12, 17])])
def corebankref34_Check.B8 : List Nat := [0, 1, 0, 4, 15, 31, 63, 127, 63, 319, 1023, 2047, 4095, 8191, 16383, 8191, 40959, 131071, 262143]
theorem corebankref34_Check.tab8 : rtab .any (opsOf Tryd.f22 8) = corebankref34_Check.T8 := by kernel_rfl
theorem corebankref34_Check.bits8 : waitsOk corebankref34_Check.T8.2 corebankref34_Check.B8 = true := by kernel_rfl
def corebankref34_Check.T10 : Bool × List (List Nat × List Nat) := (true, [([], []), ([0], [0]), ([1], [1]), ([2], [2]), ([3], [3]), ([4], [4]), ([5, 4, 4], [4, 5]), ([4], [4]), ([7, 4], [4, 7]), ([8, 4], [4, 8]), ([6, 9, 4], [4, 6, 9]), ([4, 10], [4, 10]), ([11, 6], [11]), ([12], [12]), ([13, 12], [12, 13]), ([14, 12], [12, 14]), ([15, 12, 12], [12, 15]), ([16], [16]), ([17, 16, 16], [16, 17]), ([16], [16]), ([19, 16], [16, 19]), ([20, 16], [16, 20]), ([18, 21, 16], [16, 18, 21]), ([16, 22, 12], [12, 16, 22]), ([12, 23], [12, 23])])
def corebankref34_Check.B10 : List Nat := [0, 1, 3, 7, 15, 31, 63, 31, 159, 415, 1023, 2047, 4095, 8191, 16383, 32767, 65535, 131071, 262143, 131071, 655359, 1703935, 4194303, 8388607, 16777215]
theorem corebankref34_Check.tab10 : rtab .any (opsOf Tryd.f22 10) = corebankref34_Check.T10 := by kernel_rfl
theorem corebankref34_Check.bits10 : waitsOk corebankref34_Check.T10.2 corebankref34_Check.B10 = true := by kernel_rfl
set_option maxHeartbeats 8000000 in
set_option maxRecDepth 100000 in
theorem corebankref34_Check.calls (k : Nat) (a0_0 a0_1 a0_2 a0_3 a0_4 a0_5 a0_6 a0_7 a0_8 a0_9 a0_10 a0_11 a0_12 a0_13 a0_14 a0_15 a0_16 a0_17 a0_18 a0_19 a0_20 : Int) (a0_21 a0_22 : ByteArray) (A0_23 : Option Addr) (c0_23 : Nat) (l0_23 : List (S54)) (A0_24 : Option Addr) (c0_24 : Nat) (l0_24 : List (S50)) (r : Int) (w : World) (hr0_23 : Kd.C k54 w A0_23 l0_23.length l0_23) (hc0_23 : l0_23.length ≤ c0_23) (hr0_24 : Kd.C k50 w A0_24 l0_24.length l0_24) (hc0_24 : l0_24.length ≤ c0_24) (h : corebankref34_Check.f k a0_0 a0_1 a0_2 a0_3 a0_4 a0_5 a0_6 a0_7 a0_8 a0_9 a0_10 a0_11 a0_12 a0_13 a0_14 a0_15 a0_16 a0_17 a0_18 a0_19 a0_20 a0_21 a0_22 l0_23 l0_24 = some r) :
  Calls Tryd.prog 22 #[.agg #[.int .i64 a0_0, .int .i64 a0_1, .int .i64 a0_2, .int .i64 a0_3, .int .i64 a0_4, .int .i64 a0_5, .int .i64 a0_6, .int .i64 a0_7, .int .i64 a0_8, .int .i64 a0_9, .int .i64 a0_10, .int .i64 a0_11, .int .i64 a0_12, .int .i64 a0_13, .int .i64 a0_14, .int .i64 a0_15, .int .i64 a0_16, .int .i64 a0_17, .int .i64 a0_18, .int .i64 a0_19, .int .i64 a0_20, .string a0_21, .string a0_22, .slice A0_23 l0_23.length c0_23, .slice A0_24 l0_24.length c0_24]] w fun e w' => e = .returned (.int .i64 r) ∧ Below w.heap.size w w' := by
 have hu27 := Tryd.underlying27
 have HR0_23 := Aside0.mk hr0_23
 have HC0_23 := Aside0.mk hc0_23
 clear hr0_23 hc0_23
 have HR0_24 := Aside0.mk hr0_24
 have HC0_24 := Aside0.mk hc0_24
 clear hr0_24 hc0_24
 have HB := Aside0.mk (Below.refl w.heap.size w)
 have H : ((corebankref34_ranged.f k a0_0 a0_1 a0_2 a0_3 a0_4 a0_5 a0_6 a0_7 a0_8 a0_9 a0_10 a0_11 a0_12 a0_13 a0_14 a0_15 a0_16 a0_17 a0_18 a0_19 a0_20 a0_21 a0_22 l0_23 l0_24).bind fun t501 => (if t501 = true then (corebankref34_Check.l0 k 0 a0_0 a0_1 a0_2 a0_3 a0_4 a0_5 a0_6 a0_7 a0_8 a0_9 a0_10 a0_11 a0_12 a0_13 a0_14 a0_15 a0_16 a0_17 a0_18 a0_19 a0_20 a0_21 a0_22 l0_23 l0_24) else (some 1))) = some r := h
 clear h
 replace H := Option.bind_eq_some_iff.mp H
 obtain ⟨t501, A20, H⟩ := H
 replace H : (if t501 = true then (corebankref34_Check.l0 k 0 a0_0 a0_1 a0_2 a0_3 a0_4 a0_5 a0_6 a0_7 a0_8 a0_9 a0_10 a0_11 a0_12 a0_13 a0_14 a0_15 a0_16 a0_17 a0_18 a0_19 a0_20 a0_21 a0_22 l0_23 l0_24) else (some 1)) = some r := H
 have A2 := Aside0.mk A20
 clear A20
 by_cases c3 : t501 = true
 ·subst c3
  have H1 : (corebankref34_Check.l0 k 0 a0_0 a0_1 a0_2 a0_3 a0_4 a0_5 a0_6 a0_7 a0_8 a0_9 a0_10 a0_11 a0_12 a0_13 a0_14 a0_15 a0_16 a0_17 a0_18 a0_19 a0_20 a0_21 a0_22 l0_23 l0_24) = some r := by rw [if_pos rfl] at H; exact H
  clear H
  have H := H1
  clear H1
  have H' := Aside0.mk H
  clear H
  go_enter Tryd.func22, Tryd.ntmps22
  go_wp2_with (first | ((with_reducible refine gate_load_ (t := 27) rfl ?_); refine ld_ (t := 27) Tryd.underlying27 rfl rfl rfl (by (repeat (first | (with_reducible first | refine blk_drewN ?_ _ | refine blk_drew ?_ | refine blk_alloc ?_ _) | refine blk_set ?_ _ _)); (with_reducible first | exact BK500.out)) rfl (by kernel_rfl) ?_) | ((with_reducible refine gate_load_ (t := 27) rfl ?_); refine ldg51_ (t := 27) Tryd.underlying27 rfl (by rfl) rfl (by (repeat (first | (with_reducible first | refine blk_drewN ?_ _ | refine blk_drew ?_ | refine blk_alloc ?_ _) | refine blk_set ?_ _ _)); (with_reducible first | exact BK500.out)) rfl (by kernel_rfl) ?_) | ((with_reducible refine gate_dst (N := 1) rfl ?_); refine be_ (N := 1) (cs := #[.int .i64 a0_0, .int .i64 a0_1, .int .i64 a0_2, .int .i64 a0_3, .int .i64 a0_4, .int .i64 a0_5, .int .i64 a0_6, .int .i64 a0_7, .int .i64 a0_8, .int .i64 a0_9, .int .i64 a0_10, .int .i64 a0_11, .int .i64 a0_12, .int .i64 a0_13, .int .i64 a0_14, .int .i64 a0_15, .int .i64 a0_16, .int .i64 a0_17, .int .i64 a0_18, .int .i64 a0_19, .int .i64 a0_20, .string a0_21, .string a0_22, .slice A0_23 l0_23.length c0_23, .slice A0_24 l0_24.length c0_24]) (t := 27) ?_; intro gb500 hg w4 hbox hb; have n0_ := Aside0.mk (below_step (qb_ HB.out) hb); have n1_ := Aside0.mk (hbox); have n2_ := Aside0.mk (bz_ hg (qb_ HB.out) : w.heap.size ≤ gb500); have n3_ := n2_; clear HB; have HB := n0_; have BK500 := n1_; have GW500 := n2_; have GE500 := n3_; clear n0_ n1_ n2_ n3_; clear hb hbox hg; obtain ⟨Z5_0, Z5_1, Z5_2, Z5_3, Z5_4, Z5_5, Z5_6, Z5_7, Z5_8, Z5_9, Z5_10, Z5_11, Z5_12, Z5_13, Z5_14, Z5_15, Z5_16, Z5_17, Z5_18, Z5_19, Z5_20, Z5_21, Z5_22, Z5_23, Z5_24, Y5_0, Y5_1, Y5_2, Y5_3, Y5_4, Y5_5, Y5_6, Y5_7, Y5_8, Y5_9, Y5_10, Y5_11, Y5_12, Y5_13, Y5_14, Y5_15, Y5_16, Y5_17, Y5_18, Y5_19, Y5_20, Y5_21, Y5_22, Y5_23, Y5_24⟩ := cz25_ BK500.out) | ((with_reducible refine gate_callee (f := 37) rfl ?_); refine goesL_ (some 5) rfl rfl Tryd.func37 (by kernel_rfl) rfl #[.agg #[.int .i64 a0_0, .int .i64 a0_1, .int .i64 a0_2, .int .i64 a0_3, .int .i64 a0_4, .int .i64 a0_5, .int .i64 a0_6, .int .i64 a0_7, .int .i64 a0_8, .int .i64 a0_9, .int .i64 a0_10, .int .i64 a0_11, .int .i64 a0_12, .int .i64 a0_13, .int .i64 a0_14, .int .i64 a0_15, .int .i64 a0_16, .int .i64 a0_17, .int .i64 a0_18, .int .i64 a0_19, .int .i64 a0_20, .string a0_21, .string a0_22, .slice A0_23 l0_23.length c0_23, .slice A0_24 l0_24.length c0_24]] rfl ql_ ?_; (with_reducible refine (corebankref34_ranged.calls k a0_0 a0_1 a0_2 a0_3 a0_4 a0_5 a0_6 a0_7 a0_8 a0_9 a0_10 a0_11 a0_12 a0_13 a0_14 a0_15 a0_16 a0_17 a0_18 a0_19 a0_20 a0_21 a0_22 _ _ l0_23 _ _ l0_24 true _ ?side1 ?side2 ?side3 ?side4 A2.out).mono ?_); (case side1 => repeat (first | exact (Kd.C_below HR0_23.out HB.out) | (with_reducible refine Kd.C_alloc ?_ _) | (with_reducible refine Kd.C_drewN ?_ _) | (with_reducible refine Kd.C_drew ?_))); (case side2 => exact HC0_23.out); (case side3 => repeat (first | exact (Kd.C_below HR0_24.out HB.out) | (with_reducible refine Kd.C_alloc ?_ _) | (with_reducible refine Kd.C_drewN ?_ _) | (with_reducible refine Kd.C_drew ?_))); (case side4 => exact HC0_24.out); rintro e w6 ⟨rfl, hb⟩; refine ⟨_, rfl, ?_⟩; have n0_ := Aside0.mk (blk_below (qk_ BK500.out) hb); have n1_ := Aside0.mk (below_step (qb1_ GE500.out HB.out) hb); clear BK500; clear HB; have BK500 := n0_; have HB := n1_; clear n0_ n1_; (try clear hb); (try clear hb2); (try clear hk); (try clear hi)))
  go_loopg [3] k (fun kq v3 w' => ∃ (x3_1 : Int), v3 = .int .i64 x3_1 ∧ Aside0 (corebankref34_Check.l0 kq x3_1 a0_0 a0_1 a0_2 a0_3 a0_4 a0_5 a0_6 a0_7 a0_8 a0_9 a0_10 a0_11 a0_12 a0_13 a0_14 a0_15 a0_16 a0_17 a0_18 a0_19 a0_20 a0_21 a0_22 l0_23 l0_24 = some r) ∧ Aside0 (kq ≤ k) ∧ Aside0 (w'.heap[gb500]? = some (.cells #[.int .i64 a0_0, .int .i64 a0_1, .int .i64 a0_2, .int .i64 a0_3, .int .i64 a0_4, .int .i64 a0_5, .int .i64 a0_6, .int .i64 a0_7, .int .i64 a0_8, .int .i64 a0_9, .int .i64 a0_10, .int .i64 a0_11, .int .i64 a0_12, .int .i64 a0_13, .int .i64 a0_14, .int .i64 a0_15, .int .i64 a0_16, .int .i64 a0_17, .int .i64 a0_18, .int .i64 a0_19, .int .i64 a0_20, .string a0_21, .string a0_22, (.slice A0_23 l0_23.length c0_23), (.slice A0_24 l0_24.length c0_24)] 27 (0, 0))) ∧ Aside0 (Below w.heap.size w w'))
  case atStart => exact ⟨(0), qs_, H', ⟨Nat.le_refl _⟩, ⟨qk_ BK500.out⟩, ⟨qb1_ GE500.out HB.out⟩⟩
  case round =>
   clear H'
   try clear c2
   try clear p2
   try clear c3
   (try clear Z5_0 Z5_1 Z5_10 Z5_11 Z5_12 Z5_13 Z5_14 Z5_15 Z5_16 Z5_17 Z5_18 Z5_19 Z5_2 Z5_20 Z5_21 Z5_22 Z5_23 Z5_24 Z5_3 Z5_4 Z5_5 Z5_6 Z5_7 Z5_8 Z5_9 Y5_0 Y5_1 Y5_10 Y5_11 Y5_12 Y5_13 Y5_14 Y5_15 Y5_16 Y5_17 Y5_18 Y5_19 Y5_2 Y5_20 Y5_21 Y5_22 Y5_23 Y5_24 Y5_3 Y5_4 Y5_5 Y5_6 Y5_7 Y5_8 Y5_9)
   obtain ⟨x3_1, rfl, HA, HK1, BK500, HB⟩ := hrel
   cases gk with
   | zero => exact absurd HA.out (by simp [corebankref34_Check.l0])
   | succ k1 =>
    have H := HA.out
    clear HA
    simp only [corebankref34_Check.l0] at H
    by_cases c7 : x3_1 < (l0_23.length : Int)
    ·rw [if_pos c7] at H
     have c7b0 : decide (x3_1 < (l0_23.length : Int)) = true := decide_eq_true c7
     clear c7
     have HC8 := Aside0.mk H
     clear H
     obtain ⟨Z9_0, Z9_1, Z9_2, Z9_3, Z9_4, Z9_5, Z9_6, Z9_7, Z9_8, Z9_9, Z9_10, Z9_11, Z9_12, Z9_13, Z9_14, Z9_15, Z9_16, Z9_17, Z9_18, Z9_19, Z9_20, Z9_21, Z9_22, Z9_23, Z9_24, Y9_0, Y9_1, Y9_2, Y9_3, Y9_4, Y9_5, Y9_6, Y9_7, Y9_8, Y9_9, Y9_10, Y9_11, Y9_12, Y9_13, Y9_14, Y9_15, Y9_16, Y9_17, Y9_18, Y9_19, Y9_20, Y9_21, Y9_22, Y9_23, Y9_24⟩ := cz25_ BK500.out
     go_upto_region 6 with (fail)
     go_cut [42] (fun v42 wc => ∃ (kq : Nat) (x42_7 : Bool), v42 = .bool x42_7 ∧ Aside0 (corebankref34_Check.j1 kq x3_1 x42_7 a0_0 a0_1 a0_2 a0_3 a0_4 a0_5 a0_6 a0_7 a0_8 a0_9 a0_10 a0_11 a0_12 a0_13 a0_14 a0_15 a0_16 a0_17 a0_18 a0_19 a0_20 a0_21 a0_22 l0_23 l0_24 = some r) ∧ Aside0 (kq ≤ k1) ∧ Aside0 (wc.heap[gb500]? = some (.cells #[.int .i64 a0_0, .int .i64 a0_1, .int .i64 a0_2, .int .i64 a0_3, .int .i64 a0_4, .int .i64 a0_5, .int .i64 a0_6, .int .i64 a0_7, .int .i64 a0_8, .int .i64 a0_9, .int .i64 a0_10, .int .i64 a0_11, .int .i64 a0_12, .int .i64 a0_13, .int .i64 a0_14, .int .i64 a0_15, .int .i64 a0_16, .int .i64 a0_17, .int .i64 a0_18, .int .i64 a0_19, .int .i64 a0_20, .string a0_21, .string a0_22, (.slice A0_23 l0_23.length c0_23), (.slice A0_24 l0_24.length c0_24)] 27 (0, 0))) ∧ Aside0 (Below w.heap.size w wc))
     case first =>
      have H := HC8.out
      clear HC8
      by_cases c10 : 0 ≤ x3_1
      ·rw [if_pos c10] at H
       have c10b0 : decide (0 ≤ x3_1) = true := decide_eq_true c10
       clear c10
       (first | rw [c10b0] | (simp only [i64_w, i32_w]; rw [c10b0]) | skip)
       by_cases c11 : ((rd_T54 l0_23 x3_1).f0) = (wrap64 (x3_1 + 1))
       ·rw [if_pos c11] at H
        have c11b0 : (((rd_T54 l0_23 x3_1).f0) == (wrap64 (x3_1 + 1))) = true := beq_iff_eq.mpr c11
        have c11b1 : (((rd_T54 l0_23 x3_1).f0) != (wrap64 (x3_1 + 1))) = false := bne_eq_false_iff_eq.mpr c11
        clear c11
        by_cases c12 : x3_1 > 0
        ·rw [if_pos c12] at H
         have c12b0 : decide (0 < x3_1) = true := decide_eq_true c12
         clear c12
         obtain ⟨ji13, hji13⟩ : ∃ j_ : Int, (wrap64 (x3_1 - 1)) = j_ := ⟨_, rfl⟩
         replace H : (if 0 ≤ (ji13) then (if (ji13) < (l0_23.length : Int) then (corebankref34_Check.j1 k1 x3_1 (decide (((rd_T54 l0_23 x3_1).f1) < ((rd_T54 l0_23 (ji13)).f1))) a0_0 a0_1 a0_2 a0_3 a0_4 a0_5 a0_6 a0_7 a0_8 a0_9 a0_10 a0_11 a0_12 a0_13 a0_14 a0_15 a0_16 a0_17 a0_18 a0_19 a0_20 a0_21 a0_22 l0_23 l0_24) else (none)) else (none)) = some r := by first | (rw [hji13] at H; exact H) | (simp only [hji13] at H ⊢; exact H)
         have hji13w : (IntKind.i64.wrap (x3_1 - 1)) = ji13 := (i64_w _).trans hji13
         by_cases c14 : 0 ≤ (ji13)
         ·rw [if_pos c14] at H
          have c14b0 : decide (0 ≤ (ji13)) = true := decide_eq_true c14
          clear c14
          by_cases c15 : (ji13) < (l0_23.length : Int)
          ·rw [if_pos c15] at H
           have c15b0 : decide ((ji13) < (l0_23.length : Int)) = true := decide_eq_true c15
           clear c15
           have H' := Aside0.mk H
           clear H
           try go_wp2
           have n0_ := Aside0.mk (blk_drew BK500.out)
           have n1_ := Aside0.mk (below_drew1 HB.out)
           clear BK500
           clear HB
           have BK500 := n0_
           have HB := n1_
           clear n0_ n1_
           have p502 : 0 ≤ (x3_1 : Int) := of_decide_eq_true (by first | (with_reducible assumption) | assumption)
           have q502 : x3_1 < (l0_23.length : Int) := of_decide_eq_true (by first | (with_reducible assumption) | assumption)
           obtain ⟨ad502, e502, hx502_0, hx502_1, hx502_2, hx502_3⟩ := at_T54 HR0_23.out x3_1 p502 q502
           have hw502_3 := hx502_3
           have hw502_2 := hx502_2
           have hw502_1 := hx502_1
           have hw502_0 := hx502_0
           cases e502
           replace hx502_0 := bx_ HB.out hx502_0
           replace hx502_1 := bx_ HB.out hx502_1
           replace hx502_2 := bx_ HB.out hx502_2
           replace hx502_3 := bx_ HB.out hx502_3
           replace p502 := eq_true p502
           replace q502 := eq_true q502
           have p503 : 0 ≤ (x3_1 : Int) := of_decide_eq_true (by first | (with_reducible assumption) | assumption)
           have q503 : x3_1 < (l0_23.length : Int) := of_decide_eq_true (by first | (with_reducible assumption) | assumption)
           obtain ⟨ad503, e503, hx503_0, hx503_1, hx503_2, hx503_3⟩ := at_T54 HR0_23.out x3_1 p503 q503
           have hw503_3 := hx503_3
           have hw503_2 := hx503_2
           have hw503_1 := hx503_1
           have hw503_0 := hx503_0
           obtain rfl : ad502 = ad503 := (by injection e503)
           replace hx503_0 := bx_ HB.out hx503_0
           replace hx503_1 := bx_ HB.out hx503_1
           replace hx503_2 := bx_ HB.out hx503_2
           replace hx503_3 := bx_ HB.out hx503_3
           replace p503 := eq_true p503
           replace q503 := eq_true q503
           have p504 : 0 ≤ ((ji13) : Int) := of_decide_eq_true (by first | (with_reducible assumption) | assumption)
           have q504 : (ji13) < (l0_23.length : Int) := of_decide_eq_true (by first | (with_reducible assumption) | assumption)
           obtain ⟨ad504, e504, hx504_0, hx504_1, hx504_2, hx504_3⟩ := at_T54 HR0_23.out (ji13) p504 q504
           have hw504_3 := hx504_3
           have hw504_2 := hx504_2
           have hw504_1 := hx504_1
           have hw504_0 := hx504_0
           obtain rfl : ad502 = ad504 := (by injection e504)
           replace hx504_0 := bx_ HB.out hx504_0
           replace hx504_1 := bx_ HB.out hx504_1
           replace hx504_2 := bx_ HB.out hx504_2
           replace hx504_3 := bx_ HB.out hx504_3
           replace p504 := eq_true p504
           replace q504 := eq_true q504
           refine start_ (n := 29) (S := fun w' => w'.cell? ⟨gb500, 0, none⟩ = some (.int .i64 a0_0) ∧ w'.cell? ⟨gb500, 1, none⟩ = some (.int .i64 a0_1) ∧ w'.cell? ⟨gb500, 2, none⟩ = some (.int .i64 a0_2) ∧ w'.cell? ⟨gb500, 3, none⟩ = some (.int .i64 a0_3) ∧ w'.cell? ⟨gb500, 4, none⟩ = some (.int .i64 a0_4) ∧ w'.cell? ⟨gb500, 5, none⟩ = some (.int .i64 a0_5) ∧ w'.cell? ⟨gb500, 6, none⟩ = some (.int .i64 a0_6) ∧ w'.cell? ⟨gb500, 7, none⟩ = some (.int .i64 a0_7) ∧ w'.cell? ⟨gb500, 8, none⟩ = some (.int .i64 a0_8) ∧ w'.cell? ⟨gb500, 9, none⟩ = some (.int .i64 a0_9) ∧ w'.cell? ⟨gb500, 10, none⟩ = some (.int .i64 a0_10) ∧ w'.cell? ⟨gb500, 11, none⟩ = some (.int .i64 a0_11) ∧ w'.cell? ⟨gb500, 12, none⟩ = some (.int .i64 a0_12) ∧ w'.cell? ⟨gb500, 13, none⟩ = some (.int .i64 a0_13) ∧ w'.cell? ⟨gb500, 14, none⟩ = some (.int .i64 a0_14) ∧ w'.cell? ⟨gb500, 15, none⟩ = some (.int .i64 a0_15) ∧ w'.cell? ⟨gb500, 16, none⟩ = some (.int .i64 a0_16) ∧ w'.cell? ⟨gb500, 17, none⟩ = some (.int .i64 a0_17) ∧ w'.cell? ⟨gb500, 18, none⟩ = some (.int .i64 a0_18) ∧ w'.cell? ⟨gb500, 19, none⟩ = some (.int .i64 a0_19) ∧ w'.cell? ⟨gb500, 20, none⟩ = some (.int .i64 a0_20) ∧ w'.cell? ⟨gb500, 21, none⟩ = some (.string a0_21) ∧ w'.cell? ⟨gb500, 22, none⟩ = some (.string a0_22) ∧ w'.cell? ⟨gb500, 23, none⟩ = some (.slice (some ad502) l0_23.length c0_23) ∧ w'.cell? ⟨gb500, 24, none⟩ = some (.slice A0_24 l0_24.length c0_24) ∧ w'.cell? (ad502.add ((x3_1).toNat * 4)) = some (.int .i64 ((rd_T54 l0_23 x3_1).f0)) ∧ w'.cell? ⟨(ad502.add ((x3_1).toNat * 4)).block, (ad502.add ((x3_1).toNat * 4)).off + 1, none⟩ = some (.int .i64 ((rd_T54 l0_23 x3_1).f1)) ∧ w'.cell? ⟨(ad502.add ((x3_1).toNat * 4)).block, (ad502.add ((x3_1).toNat * 4)).off + 2, none⟩ = some (.int .i64 ((rd_T54 l0_23 x3_1).f2)) ∧ w'.cell? ⟨(ad502.add ((x3_1).toNat * 4)).block, (ad502.add ((x3_1).toNat * 4)).off + 3, none⟩ = some (.int .i64 ((rd_T54 l0_23 x3_1).f3)) ∧ w'.cell? (ad502.add ((x3_1).toNat * 4)) = some (.int .i64 ((rd_T54 l0_23 x3_1).f0)) ∧ w'.cell? ⟨(ad502.add ((x3_1).toNat * 4)).block, (ad502.add ((x3_1).toNat * 4)).off + 1, none⟩ = some (.int .i64 ((rd_T54 l0_23 x3_1).f1)) ∧ w'.cell? ⟨(ad502.add ((x3_1).toNat * 4)).block, (ad502.add ((x3_1).toNat * 4)).off + 2, none⟩ = some (.int .i64 ((rd_T54 l0_23 x3_1).f2)) ∧ w'.cell? ⟨(ad502.add ((x3_1).toNat * 4)).block, (ad502.add ((x3_1).toNat * 4)).off + 3, none⟩ = some (.int .i64 ((rd_T54 l0_23 x3_1).f3)) ∧ w'.cell? (ad502.add (((ji13)).toNat * 4)) = some (.int .i64 ((rd_T54 l0_23 (ji13)).f0)) ∧ w'.cell? ⟨(ad502.add (((ji13)).toNat * 4)).block, (ad502.add (((ji13)).toNat * 4)).off + 1, none⟩ = some (.int .i64 ((rd_T54 l0_23 (ji13)).f1)) ∧ w'.cell? ⟨(ad502.add (((ji13)).toNat * 4)).block, (ad502.add (((ji13)).toNat * 4)).off + 2, none⟩ = some (.int .i64 ((rd_T54 l0_23 (ji13)).f2)) ∧ w'.cell? ⟨(ad502.add (((ji13)).toNat * 4)).block, (ad502.add (((ji13)).toNat * 4)).off + 3, none⟩ = some (.int .i64 ((rd_T54 l0_23 (ji13)).f3))) (ds := []) (nb_ 29 0) (by kernel_rfl) rfl rfl ⟨(blk_cell BK500.out 0).trans rfl, (blk_cell BK500.out 1).trans rfl, (blk_cell BK500.out 2).trans rfl, (blk_cell BK500.out 3).trans rfl, (blk_cell BK500.out 4).trans rfl, (blk_cell BK500.out 5).trans rfl, (blk_cell BK500.out 6).trans rfl, (blk_cell BK500.out 7).trans rfl, (blk_cell BK500.out 8).trans rfl, (blk_cell BK500.out 9).trans rfl, (blk_cell BK500.out 10).trans rfl, (blk_cell BK500.out 11).trans rfl, (blk_cell BK500.out 12).trans rfl, (blk_cell BK500.out 13).trans rfl, (blk_cell BK500.out 14).trans rfl, (blk_cell BK500.out 15).trans rfl, (blk_cell BK500.out 16).trans rfl, (blk_cell BK500.out 17).trans rfl, (blk_cell BK500.out 18).trans rfl, (blk_cell BK500.out 19).trans rfl, (blk_cell BK500.out 20).trans rfl, (blk_cell BK500.out 21).trans rfl, (blk_cell BK500.out 22).trans rfl, (blk_cell BK500.out 23).trans rfl, (blk_cell BK500.out 24).trans rfl, ((HB.out.cell (World.block_lt_of_cell? w _ hw502_0)).trans hw502_0), ((HB.out.cell (World.block_lt_of_cell? w _ hw502_1)).trans hw502_1), ((HB.out.cell (World.block_lt_of_cell? w _ hw502_2)).trans hw502_2), ((HB.out.cell (World.block_lt_of_cell? w _ hw502_3)).trans hw502_3), ((HB.out.cell (World.block_lt_of_cell? w _ hw503_0)).trans hw503_0), ((HB.out.cell (World.block_lt_of_cell? w _ hw503_1)).trans hw503_1), ((HB.out.cell (World.block_lt_of_cell? w _ hw503_2)).trans hw503_2), ((HB.out.cell (World.block_lt_of_cell? w _ hw503_3)).trans hw503_3), ((HB.out.cell (World.block_lt_of_cell? w _ hw504_0)).trans hw504_0), ((HB.out.cell (World.block_lt_of_cell? w _ hw504_1)).trans hw504_1), ((HB.out.cell (World.block_lt_of_cell? w _ hw504_2)).trans hw504_2), ((HB.out.cell (World.block_lt_of_cell? w _ hw504_3)).trans hw504_3)⟩ (fun hHeld => ?_); refine with_tabW corebankref34_Check.tab6 corebankref34_Check.bits6 (fun HT_ HW_ => ?_)
           generalize wr.drew = w16 at BK500 HB hx502_0 hx502_1 hx502_2 hx502_3 hx503_0 hx503_1 hx503_2 hx503_3 hx504_0 hx504_1 hx504_2 hx504_3 hHeld ⊢
           refine pz_ 0 14 (nb_ 29 1) HT_.out ?_
           refine pz_ 2 16 (nb_ 29 5) HT_.out ?_
           refine pz_ 6 20 (nb_ 29 69) HT_.out ?_
           refine pz_ 7 21 (nb_ 29 197) HT_.out ?_
           refine take_ (i := 1) (N := some 15) (v := ?_) (a' := ?_) (nb_ 29 199) rfl rfl (take_ofW HT_.out HW_.out (by kernel_rfl)) (fun _ _ _ h => h) (Or.inl ⟨by rfl, ?_⟩) hHeld ?_ ?_
           rotate_left
           ·rintro w' ⟨s0, s1, s2, s3, s4, s5, s6, s7, s8, s9, s10, s11, s12, s13, s14, s15, s16, s17, s18, s19, s20, s21, s22, s23, s24, s25, s26, s27, s28, s29, s30, s31, s32, s33, s34, s35, s36⟩
            go_simp
            with_reducible rfl
           rotate_left
           ·simp only [Act.put, List.setIfInBounds_toArray, List.set_cons_zero, List.set_cons_succ, i64_w, i32_w]
            rfl
           refine pz_ 3 17 (nb_ 29 207) HT_.out ?_
           refine pz_ 4 18 (nb_ 29 223) HT_.out ?_
           refine take_ (i := 5) (N := some 19) (v := ?_) (a' := ?_) (nb_ 29 255) rfl rfl (take_ofW HT_.out HW_.out (by kernel_rfl)) (fun _ _ _ h => h) (Or.inl ⟨by rfl, ?_⟩) hHeld ?_ ?_
           rotate_left
           ·rintro w' ⟨s0, s1, s2, s3, s4, s5, s6, s7, s8, s9, s10, s11, s12, s13, s14, s15, s16, s17, s18, s19, s20, s21, s22, s23, s24, s25, s26, s27, s28, s29, s30, s31, s32, s33, s34, s35, s36⟩
            go_simp
            with_reducible rfl
           rotate_left
           ·simp only [Act.put, List.setIfInBounds_toArray, List.set_cons_zero, List.set_cons_succ, i64_w, i32_w]
            rfl
           refine pz_ 8 22 (nb_ 29 511) HT_.out ?_
           refine pz_ 9 23 (nb_ 29 1023) HT_.out ?_
           refine pz_ 10 24 (nb_ 29 2047) HT_.out ?_
           refine pz_ 11 25 (nb_ 29 4095) HT_.out ?_
           refine pz_ 12 26 (nb_ 29 8191) HT_.out ?_
           refine pz_ 13 27 (nb_ 29 16383) HT_.out ?_
           refine pz_ 15 29 (nb_ 29 49151) HT_.out ?_
           refine pz_ 19 33 (nb_ 29 573439) HT_.out ?_
           refine pz_ 21 35 (nb_ 29 2670591) HT_.out ?_
           refine pz_ 22 36 (nb_ 29 6864895) HT_.out ?_
           refine take_ (i := 14) (N := some 28) (v := ?_) (a' := ?_) (nb_ 29 6881279) rfl rfl (take_ofW HT_.out HW_.out (by kernel_rfl)) (fun _ _ _ h => h) (Or.inl ⟨by rfl, ?_⟩) hHeld ?_ ?_
           rotate_left
           ·rintro w' ⟨s0, s1, s2, s3, s4, s5, s6, s7, s8, s9, s10, s11, s12, s13, s14, s15, s16, s17, s18, s19, s20, s21, s22, s23, s24, s25, s26, s27, s28, s29, s30, s31, s32, s33, s34, s35, s36⟩
            go_simp
            with_reducible rfl
           rotate_left
           ·simp only [Act.put, List.setIfInBounds_toArray, List.set_cons_zero, List.set_cons_succ, i64_w, i32_w]
            rfl
           refine pz_ 16 30 (nb_ 29 6946815) HT_.out ?_
           refine pz_ 17 31 (nb_ 29 7077887) HT_.out ?_
           refine take_ (i := 18) (N := some 32) (v := ?_) (a' := ?_) (nb_ 29 7340031) rfl rfl (take_ofW HT_.out HW_.out (by kernel_rfl)) (fun _ _ _ h => h) (Or.inl ⟨by rfl, ?_⟩) hHeld ?_ ?_
           rotate_left
           ·rintro w' ⟨s0, s1, s2, s3, s4, s5, s6, s7, s8, s9, s10, s11, s12, s13, s14, s15, s16, s17, s18, s19, s20, s21, s22, s23, s24, s25, s26, s27, s28, s29, s30, s31, s32, s33, s34, s35, s36⟩
            go_simp
            with_reducible rfl
           rotate_left
           ·simp only [Act.put, List.setIfInBounds_toArray, List.set_cons_zero, List.set_cons_succ, i64_w, i32_w]
            rfl
           refine take_ (i := 20) (N := some 34) (v := ?_) (a' := ?_) (nb_ 29 8388607) rfl rfl (take_ofW HT_.out HW_.out (by kernel_rfl)) (fun _ _ _ h => h) (Or.inl ⟨by rfl, ?_⟩) hHeld ?_ ?_
           rotate_left
           ·rintro w' ⟨s0, s1, s2, s3, s4, s5, s6, s7, s8, s9, s10, s11, s12, s13, s14, s15, s16, s17, s18, s19, s20, s21, s22, s23, s24, s25, s26, s27, s28, s29, s30, s31, s32, s33, s34, s35, s36⟩
            go_simp
            with_reducible rfl
           rotate_left
           ·simp only [Act.put, List.setIfInBounds_toArray, List.set_cons_zero, List.set_cons_succ, i64_w, i32_w]
            rfl
           refine pz_ 23 37 (nb_ 29 16777215) HT_.out ?_
           refine pz_ 24 38 (nb_ 29 33554431) HT_.out ?_
           refine take_ (i := 25) (N := some 39) (v := ?_) (a' := ?_) (nb_ 29 67108863) rfl rfl (take_ofW HT_.out HW_.out (by kernel_rfl)) (fun _ _ _ h => h) (Or.inl ⟨by rfl, ?_⟩) hHeld ?_ ?_
           rotate_left
           ·rintro w' ⟨s0, s1, s2, s3, s4, s5, s6, s7, s8, s9, s10, s11, s12, s13, s14, s15, s16, s17, s18, s19, s20, s21, s22, s23, s24, s25, s26, s27, s28, s29, s30, s31, s32, s33, s34, s35, s36⟩
            go_simp
            with_reducible rfl
           rotate_left
           ·simp only [Act.put, List.setIfInBounds_toArray, List.set_cons_zero, List.set_cons_succ, i64_w, i32_w]
            rfl
           refine pz_ 26 40 (nb_ 29 134217727) HT_.out ?_
           refine pz_ 27 41 (nb_ 29 268435455) HT_.out ?_
           refine pz_ 28 42 (nb_ 29 536870911) HT_.out ?_
           refine done_ (done_of HT_.out (by kernel_rfl)) ?_
           try go_wp2
           go_meet
           case rel => exact ⟨_, (decide (((rd_T54 l0_23 x3_1).f1) < ((rd_T54 l0_23 (ji13)).f1))), (by first | rfl | (simp; done) | (simp only [← hji13] <;> (first | rfl | simp)) | (simp [*]; done)), H', ⟨by have := HK1.out; first | omega | exact Nat.le_refl _⟩, ⟨qk_ BK500.out⟩, ⟨qb1_ GE500.out HB.out⟩⟩
          ·rw [if_neg c15] at H
           exact absurd H (by simp)
         ·rw [if_neg c14] at H
          exact absurd H (by simp)
        ·rw [if_neg c12] at H
         have c12b0 : decide (0 < x3_1) = false := decide_eq_false c12
         clear c12
         have H' := Aside0.mk H
         clear H
         try go_wp2
         have n0_ := Aside0.mk (blk_drew BK500.out)
         have n1_ := Aside0.mk (below_drew1 HB.out)
         clear BK500
         clear HB
         have BK500 := n0_
         have HB := n1_
         clear n0_ n1_
         have p502 : 0 ≤ (x3_1 : Int) := of_decide_eq_true (by first | (with_reducible assumption) | assumption)
         have q502 : x3_1 < (l0_23.length : Int) := of_decide_eq_true (by first | (with_reducible assumption) | assumption)
         obtain ⟨ad502, e502, hx502_0, hx502_1, hx502_2, hx502_3⟩ := at_T54 HR0_23.out x3_1 p502 q502
         have hw502_3 := hx502_3
         have hw502_2 := hx502_2
         have hw502_1 := hx502_1
         have hw502_0 := hx502_0
         cases e502
         replace hx502_0 := bx_ HB.out hx502_0
         replace hx502_1 := bx_ HB.out hx502_1
         replace hx502_2 := bx_ HB.out hx502_2
         replace hx502_3 := bx_ HB.out hx502_3
         replace p502 := eq_true p502
         replace q502 := eq_true q502
         refine start_ (n := 29) (S := fun w' => w'.cell? ⟨gb500, 0, none⟩ = some (.int .i64 a0_0) ∧ w'.cell? ⟨gb500, 1, none⟩ = some (.int .i64 a0_1) ∧ w'.cell? ⟨gb500, 2, none⟩ = some (.int .i64 a0_2) ∧ w'.cell? ⟨gb500, 3, none⟩ = some (.int .i64 a0_3) ∧ w'.cell? ⟨gb500, 4, none⟩ = some (.int .i64 a0_4) ∧ w'.cell? ⟨gb500, 5, none⟩ = some (.int .i64 a0_5) ∧ w'.cell? ⟨gb500, 6, none⟩ = some (.int .i64 a0_6) ∧ w'.cell? ⟨gb500, 7, none⟩ = some (.int .i64 a0_7) ∧ w'.cell? ⟨gb500, 8, none⟩ = some (.int .i64 a0_8) ∧ w'.cell? ⟨gb500, 9, none⟩ = some (.int .i64 a0_9) ∧ w'.cell? ⟨gb500, 10, none⟩ = some (.int .i64 a0_10) ∧ w'.cell? ⟨gb500, 11, none⟩ = some (.int .i64 a0_11) ∧ w'.cell? ⟨gb500, 12, none⟩ = some (.int .i64 a0_12) ∧ w'.cell? ⟨gb500, 13, none⟩ = some (.int .i64 a0_13) ∧ w'.cell? ⟨gb500, 14, none⟩ = some (.int .i64 a0_14) ∧ w'.cell? ⟨gb500, 15, none⟩ = some (.int .i64 a0_15) ∧ w'.cell? ⟨gb500, 16, none⟩ = some (.int .i64 a0_16) ∧ w'.cell? ⟨gb500, 17, none⟩ = some (.int .i64 a0_17) ∧ w'.cell? ⟨gb500, 18, none⟩ = some (.int .i64 a0_18) ∧ w'.cell? ⟨gb500, 19, none⟩ = some (.int .i64 a0_19) ∧ w'.cell? ⟨gb500, 20, none⟩ = some (.int .i64 a0_20) ∧ w'.cell? ⟨gb500, 21, none⟩ = some (.string a0_21) ∧ w'.cell? ⟨gb500, 22, none⟩ = some (.string a0_22) ∧ w'.cell? ⟨gb500, 23, none⟩ = some (.slice (some ad502) l0_23.length c0_23) ∧ w'.cell? ⟨gb500, 24, none⟩ = some (.slice A0_24 l0_24.length c0_24) ∧ w'.cell? (ad502.add ((x3_1).toNat * 4)) = some (.int .i64 ((rd_T54 l0_23 x3_1).f0)) ∧ w'.cell? ⟨(ad502.add ((x3_1).toNat * 4)).block, (ad502.add ((x3_1).toNat * 4)).off + 1, none⟩ = some (.int .i64 ((rd_T54 l0_23 x3_1).f1)) ∧ w'.cell? ⟨(ad502.add ((x3_1).toNat * 4)).block, (ad502.add ((x3_1).toNat * 4)).off + 2, none⟩ = some (.int .i64 ((rd_T54 l0_23 x3_1).f2)) ∧ w'.cell? ⟨(ad502.add ((x3_1).toNat * 4)).block, (ad502.add ((x3_1).toNat * 4)).off + 3, none⟩ = some (.int .i64 ((rd_T54 l0_23 x3_1).f3))) (ds := []) (nb_ 29 0) (by kernel_rfl) rfl rfl ⟨(blk_cell BK500.out 0).trans rfl, (blk_cell BK500.out 1).trans rfl, (blk_cell BK500.out 2).trans rfl, (blk_cell BK500.out 3).trans rfl, (blk_cell BK500.out 4).trans rfl, (blk_cell BK500.out 5).trans rfl, (blk_cell BK500.out 6).trans rfl, (blk_cell BK500.out 7).trans rfl, (blk_cell BK500.out 8).trans rfl, (blk_cell BK500.out 9).trans rfl, (blk_cell BK500.out 10).trans rfl, (blk_cell BK500.out 11).trans rfl, (blk_cell BK500.out 12).trans rfl, (blk_cell BK500.out 13).trans rfl, (blk_cell BK500.out 14).trans rfl, (blk_cell BK500.out 15).trans rfl, (blk_cell BK500.out 16).trans rfl, (blk_cell BK500.out 17).trans rfl, (blk_cell BK500.out 18).trans rfl, (blk_cell BK500.out 19).trans rfl, (blk_cell BK500.out 20).trans rfl, (blk_cell BK500.out 21).trans rfl, (blk_cell BK500.out 22).trans rfl, (blk_cell BK500.out 23).trans rfl, (blk_cell BK500.out 24).trans rfl, ((HB.out.cell (World.block_lt_of_cell? w _ hw502_0)).trans hw502_0), ((HB.out.cell (World.block_lt_of_cell? w _ hw502_1)).trans hw502_1), ((HB.out.cell (World.block_lt_of_cell? w _ hw502_2)).trans hw502_2), ((HB.out.cell (World.block_lt_of_cell? w _ hw502_3)).trans hw502_3)⟩ (fun hHeld => ?_); refine with_tabW corebankref34_Check.tab6 corebankref34_Check.bits6 (fun HT_ HW_ => ?_)
         generalize wr.drew = w17 at BK500 HB hx502_0 hx502_1 hx502_2 hx502_3 hHeld ⊢
         refine pz_ 0 14 (nb_ 29 1) HT_.out ?_
         refine pz_ 2 16 (nb_ 29 5) HT_.out ?_
         refine pz_ 6 20 (nb_ 29 69) HT_.out ?_
         refine pz_ 7 21 (nb_ 29 197) HT_.out ?_
         refine take_ (i := 1) (N := some 15) (v := ?_) (a' := ?_) (nb_ 29 199) rfl rfl (take_ofW HT_.out HW_.out (by kernel_rfl)) (fun _ _ _ h => h) (Or.inl ⟨by rfl, ?_⟩) hHeld ?_ ?_
         rotate_left
         ·rintro w' ⟨s0, s1, s2, s3, s4, s5, s6, s7, s8, s9, s10, s11, s12, s13, s14, s15, s16, s17, s18, s19, s20, s21, s22, s23, s24, s25, s26, s27, s28⟩
          go_simp
          with_reducible rfl
         rotate_left
         ·simp only [Act.put, List.setIfInBounds_toArray, List.set_cons_zero, List.set_cons_succ, i64_w, i32_w]
          rfl
         refine pz_ 3 17 (nb_ 29 207) HT_.out ?_
         refine pz_ 4 18 (nb_ 29 223) HT_.out ?_
         refine take_ (i := 5) (N := some 19) (v := ?_) (a' := ?_) (nb_ 29 255) rfl rfl (take_ofW HT_.out HW_.out (by kernel_rfl)) (fun _ _ _ h => h) (Or.inl ⟨by rfl, ?_⟩) hHeld ?_ ?_
         rotate_left
         ·rintro w' ⟨s0, s1, s2, s3, s4, s5, s6, s7, s8, s9, s10, s11, s12, s13, s14, s15, s16, s17, s18, s19, s20, s21, s22, s23, s24, s25, s26, s27, s28⟩
          go_simp
          with_reducible rfl
         rotate_left
         ·simp only [Act.put, List.setIfInBounds_toArray, List.set_cons_zero, List.set_cons_succ, i64_w, i32_w]
          rfl
         refine pz_ 8 22 (nb_ 29 511) HT_.out ?_
         refine pz_ 9 23 (nb_ 29 1023) HT_.out ?_
         refine pz_ 10 24 (nb_ 29 2047) HT_.out ?_
         refine pz_ 11 25 (nb_ 29 4095) HT_.out ?_
         refine pz_ 12 26 (nb_ 29 8191) HT_.out ?_
         refine pu_ 13 27 (nb_ 29 16383) HT_.out ?_
         refine pu_ 14 28 (nb_ 29 32767) HT_.out ?_
         refine pu_ 15 29 (nb_ 29 65535) HT_.out ?_
         refine pu_ 16 30 (nb_ 29 131071) HT_.out ?_
         refine pu_ 17 31 (nb_ 29 262143) HT_.out ?_
         refine pu_ 18 32 (nb_ 29 524287) HT_.out ?_
         refine pu_ 19 33 (nb_ 29 1048575) HT_.out ?_
         refine pu_ 20 34 (nb_ 29 2097151) HT_.out ?_
         refine pu_ 21 35 (nb_ 29 4194303) HT_.out ?_
         refine pu_ 22 36 (nb_ 29 8388607) HT_.out ?_
         refine pu_ 23 37 (nb_ 29 16777215) HT_.out ?_
         refine pu_ 24 38 (nb_ 29 33554431) HT_.out ?_
         refine pu_ 25 39 (nb_ 29 67108863) HT_.out ?_
         refine pu_ 26 40 (nb_ 29 134217727) HT_.out ?_
         refine pz_ 27 41 (nb_ 29 268435455) HT_.out ?_
         refine pz_ 28 42 (nb_ 29 536870911) HT_.out ?_
         refine done_ (done_of HT_.out (by kernel_rfl)) ?_
         try go_wp2
         go_meet
         case rel => exact ⟨_, (false), qs_, H', ⟨by have := HK1.out; first | omega | exact Nat.le_refl _⟩, ⟨qk_ BK500.out⟩, ⟨qb1_ GE500.out HB.out⟩⟩
       ·rw [if_neg c11] at H
        have c11b0 : (((rd_T54 l0_23 x3_1).f0) == (wrap64 (x3_1 + 1))) = false := beq_eq_false_iff_ne.mpr c11
        have c11b1 : (((rd_T54 l0_23 x3_1).f0) != (wrap64 (x3_1 + 1))) = true := bne_iff_ne.mpr c11
        have H' := Aside0.mk H
        clear H
        try go_wp2
        have n0_ := Aside0.mk (blk_drew BK500.out)
        have n1_ := Aside0.mk (below_drew1 HB.out)
        clear BK500
        clear HB
        have BK500 := n0_
        have HB := n1_
        clear n0_ n1_
        have p502 : 0 ≤ (x3_1 : Int) := of_decide_eq_true (by first | (with_reducible assumption) | assumption)
        have q502 : x3_1 < (l0_23.length : Int) := of_decide_eq_true (by first | (with_reducible assumption) | assumption)
        obtain ⟨ad502, e502, hx502_0, hx502_1, hx502_2, hx502_3⟩ := at_T54 HR0_23.out x3_1 p502 q502
        have hw502_3 := hx502_3
        have hw502_2 := hx502_2
        have hw502_1 := hx502_1
        have hw502_0 := hx502_0
        cases e502
        replace hx502_0 := bx_ HB.out hx502_0
        replace hx502_1 := bx_ HB.out hx502_1
        replace hx502_2 := bx_ HB.out hx502_2
        replace hx502_3 := bx_ HB.out hx502_3
        replace p502 := eq_true p502
        replace q502 := eq_true q502
        refine start_ (n := 29) (S := fun w' => w'.cell? ⟨gb500, 0, none⟩ = some (.int .i64 a0_0) ∧ w'.cell? ⟨gb500, 1, none⟩ = some (.int .i64 a0_1) ∧ w'.cell? ⟨gb500, 2, none⟩ = some (.int .i64 a0_2) ∧ w'.cell? ⟨gb500, 3, none⟩ = some (.int .i64 a0_3) ∧ w'.cell? ⟨gb500, 4, none⟩ = some (.int .i64 a0_4) ∧ w'.cell? ⟨gb500, 5, none⟩ = some (.int .i64 a0_5) ∧ w'.cell? ⟨gb500, 6, none⟩ = some (.int .i64 a0_6) ∧ w'.cell? ⟨gb500, 7, none⟩ = some (.int .i64 a0_7) ∧ w'.cell? ⟨gb500, 8, none⟩ = some (.int .i64 a0_8) ∧ w'.cell? ⟨gb500, 9, none⟩ = some (.int .i64 a0_9) ∧ w'.cell? ⟨gb500, 10, none⟩ = some (.int .i64 a0_10) ∧ w'.cell? ⟨gb500, 11, none⟩ = some (.int .i64 a0_11) ∧ w'.cell? ⟨gb500, 12, none⟩ = some (.int .i64 a0_12) ∧ w'.cell? ⟨gb500, 13, none⟩ = some (.int .i64 a0_13) ∧ w'.cell? ⟨gb500, 14, none⟩ = some (.int .i64 a0_14) ∧ w'.cell? ⟨gb500, 15, none⟩ = some (.int .i64 a0_15) ∧ w'.cell? ⟨gb500, 16, none⟩ = some (.int .i64 a0_16) ∧ w'.cell? ⟨gb500, 17, none⟩ = some (.int .i64 a0_17) ∧ w'.cell? ⟨gb500, 18, none⟩ = some (.int .i64 a0_18) ∧ w'.cell? ⟨gb500, 19, none⟩ = some (.int .i64 a0_19) ∧ w'.cell? ⟨gb500, 20, none⟩ = some (.int .i64 a0_20) ∧ w'.cell? ⟨gb500, 21, none⟩ = some (.string a0_21) ∧ w'.cell? ⟨gb500, 22, none⟩ = some (.string a0_22) ∧ w'.cell? ⟨gb500, 23, none⟩ = some (.slice (some ad502) l0_23.length c0_23) ∧ w'.cell? ⟨gb500, 24, none⟩ = some (.slice A0_24 l0_24.length c0_24) ∧ w'.cell? (ad502.add ((x3_1).toNat * 4)) = some (.int .i64 ((rd_T54 l0_23 x3_1).f0)) ∧ w'.cell? ⟨(ad502.add ((x3_1).toNat * 4)).block, (ad502.add ((x3_1).toNat * 4)).off + 1, none⟩ = some (.int .i64 ((rd_T54 l0_23 x3_1).f1)) ∧ w'.cell? ⟨(ad502.add ((x3_1).toNat * 4)).block, (ad502.add ((x3_1).toNat * 4)).off + 2, none⟩ = some (.int .i64 ((rd_T54 l0_23 x3_1).f2)) ∧ w'.cell? ⟨(ad502.add ((x3_1).toNat * 4)).block, (ad502.add ((x3_1).toNat * 4)).off + 3, none⟩ = some (.int .i64 ((rd_T54 l0_23 x3_1).f3))) (ds := []) (nb_ 29 0) (by kernel_rfl) rfl rfl ⟨(blk_cell BK500.out 0).trans rfl, (blk_cell BK500.out 1).trans rfl, (blk_cell BK500.out 2).trans rfl, (blk_cell BK500.out 3).trans rfl, (blk_cell BK500.out 4).trans rfl, (blk_cell BK500.out 5).trans rfl, (blk_cell BK500.out 6).trans rfl, (blk_cell BK500.out 7).trans rfl, (blk_cell BK500.out 8).trans rfl, (blk_cell BK500.out 9).trans rfl, (blk_cell BK500.out 10).trans rfl, (blk_cell BK500.out 11).trans rfl, (blk_cell BK500.out 12).trans rfl, (blk_cell BK500.out 13).trans rfl, (blk_cell BK500.out 14).trans rfl, (blk_cell BK500.out 15).trans rfl, (blk_cell BK500.out 16).trans rfl, (blk_cell BK500.out 17).trans rfl, (blk_cell BK500.out 18).trans rfl, (blk_cell BK500.out 19).trans rfl, (blk_cell BK500.out 20).trans rfl, (blk_cell BK500.out 21).trans rfl, (blk_cell BK500.out 22).trans rfl, (blk_cell BK500.out 23).trans rfl, (blk_cell BK500.out 24).trans rfl, ((HB.out.cell (World.block_lt_of_cell? w _ hw502_0)).trans hw502_0), ((HB.out.cell (World.block_lt_of_cell? w _ hw502_1)).trans hw502_1), ((HB.out.cell (World.block_lt_of_cell? w _ hw502_2)).trans hw502_2), ((HB.out.cell (World.block_lt_of_cell? w _ hw502_3)).trans hw502_3)⟩ (fun hHeld => ?_); refine with_tabW corebankref34_Check.tab6 corebankref34_Check.bits6 (fun HT_ HW_ => ?_)
        generalize wr.drew = w18 at BK500 HB hx502_0 hx502_1 hx502_2 hx502_3 hHeld ⊢
        refine pz_ 0 14 (nb_ 29 1) HT_.out ?_
        refine pz_ 2 16 (nb_ 29 5) HT_.out ?_
        refine pz_ 6 20 (nb_ 29 69) HT_.out ?_
        refine pz_ 7 21 (nb_ 29 197) HT_.out ?_
        refine take_ (i := 1) (N := some 15) (v := ?_) (a' := ?_) (nb_ 29 199) rfl rfl (take_ofW HT_.out HW_.out (by kernel_rfl)) (fun _ _ _ h => h) (Or.inl ⟨by rfl, ?_⟩) hHeld ?_ ?_
        rotate_left
        ·rintro w' ⟨s0, s1, s2, s3, s4, s5, s6, s7, s8, s9, s10, s11, s12, s13, s14, s15, s16, s17, s18, s19, s20, s21, s22, s23, s24, s25, s26, s27, s28⟩
         go_simp
         with_reducible rfl
        rotate_left
        ·simp only [Act.put, List.setIfInBounds_toArray, List.set_cons_zero, List.set_cons_succ, i64_w, i32_w]
         rfl
        refine pz_ 3 17 (nb_ 29 207) HT_.out ?_
        refine pz_ 4 18 (nb_ 29 223) HT_.out ?_
        refine take_ (i := 5) (N := some 19) (v := ?_) (a' := ?_) (nb_ 29 255) rfl rfl (take_ofW HT_.out HW_.out (by kernel_rfl)) (fun _ _ _ h => h) (Or.inl ⟨by rfl, ?_⟩) hHeld ?_ ?_
        rotate_left
        ·rintro w' ⟨s0, s1, s2, s3, s4, s5, s6, s7, s8, s9, s10, s11, s12, s13, s14, s15, s16, s17, s18, s19, s20, s21, s22, s23, s24, s25, s26, s27, s28⟩
         go_simp
         with_reducible rfl
        rotate_left
        ·simp only [Act.put, List.setIfInBounds_toArray, List.set_cons_zero, List.set_cons_succ, i64_w, i32_w]
         rfl
        refine pz_ 8 22 (nb_ 29 511) HT_.out ?_
        refine pz_ 9 23 (nb_ 29 1023) HT_.out ?_
        refine pu_ 10 24 (nb_ 29 2047) HT_.out ?_
        refine pu_ 11 25 (nb_ 29 4095) HT_.out ?_
        refine pu_ 12 26 (nb_ 29 8191) HT_.out ?_
        refine pu_ 13 27 (nb_ 29 16383) HT_.out ?_
        refine pu_ 14 28 (nb_ 29 32767) HT_.out ?_
        refine pu_ 15 29 (nb_ 29 65535) HT_.out ?_
        refine pu_ 16 30 (nb_ 29 131071) HT_.out ?_
        refine pu_ 17 31 (nb_ 29 262143) HT_.out ?_
        refine pu_ 18 32 (nb_ 29 524287) HT_.out ?_
        refine pu_ 19 33 (nb_ 29 1048575) HT_.out ?_
        refine pu_ 20 34 (nb_ 29 2097151) HT_.out ?_
        refine pu_ 21 35 (nb_ 29 4194303) HT_.out ?_
        refine pu_ 22 36 (nb_ 29 8388607) HT_.out ?_
        refine pu_ 23 37 (nb_ 29 16777215) HT_.out ?_
        refine pu_ 24 38 (nb_ 29 33554431) HT_.out ?_
        refine pu_ 25 39 (nb_ 29 67108863) HT_.out ?_
        refine pu_ 26 40 (nb_ 29 134217727) HT_.out ?_
        refine pu_ 27 41 (nb_ 29 268435455) HT_.out ?_
        refine pz_ 28 42 (nb_ 29 536870911) HT_.out ?_
        refine done_ (done_of HT_.out (by kernel_rfl)) ?_
        try go_wp2
        go_meet
        case rel => exact ⟨_, (true), qs_, H', ⟨by have := HK1.out; first | omega | exact Nat.le_refl _⟩, ⟨qk_ BK500.out⟩, ⟨qb1_ GE500.out HB.out⟩⟩
      ·rw [if_neg c10] at H
       exact absurd H (by simp)
     case rest =>
      clear HC8
      try clear c1
      try clear p2
      try clear p5
      try clear q5
      try clear hx5
      try clear p6
      try clear c10
      try clear c11
      try clear c11b0
      try clear c11b1
      try clear c12
      try clear c12b0
      try clear c14
      try clear c15
      try clear hx502_0
      try clear hx502_1
      try clear hx502_2
      try clear hx502_3
      try clear p502
      try clear q502
      obtain ⟨kq, x42_7, rfl, HA, HJ7, BK500, HB⟩ := hcut
      cases kq with
      | zero => exact absurd HA.out (by simp [corebankref34_Check.j1])
      | succ kj7 =>
       have H := HA.out
       clear HA
       simp only [corebankref34_Check.j1] at H
       by_cases c19 : x42_7 = true
       ·subst c19
        have H1 : (some 10) = some r := by rw [if_pos rfl] at H; exact H
        clear H
        have H := H1
        clear H1
        obtain rfl := Option.some.inj H
        go_wp2
        go_ret
        exact ⟨qe_, qb1_ GE500.out HB.out⟩
       ·replace c19 := Bool.eq_false_iff.mpr c19
        subst c19
        have H1 : (corebankref34_Check.l0 kj7 (wrap64 (x3_1 + 1)) a0_0 a0_1 a0_2 a0_3 a0_4 a0_5 a0_6 a0_7 a0_8 a0_9 a0_10 a0_11 a0_12 a0_13 a0_14 a0_15 a0_16 a0_17 a0_18 a0_19 a0_20 a0_21 a0_22 l0_23 l0_24) = some r := by rw [if_neg (show ¬ (false = true) by decide)] at H; exact H
        clear H
        have H := H1
        clear H1
        have H' := Aside0.mk H
        clear H
        go_wp2
        go_roundg kj7
        case measure => have := HK1.out; have := HJ7.out; omega
        case rel => exact ⟨(wrap64 (x3_1 + 1)), qs_, H', ⟨by have := HK1.out; have := HJ7.out; omega⟩, ⟨qk_ BK500.out⟩, ⟨qb1_ GE500.out HB.out⟩⟩
    ·rw [if_neg c7] at H
     have c7b0 : decide (x3_1 < (l0_23.length : Int)) = false := decide_eq_false c7
     clear c7
     have HC20 := Aside0.mk H
     clear H
     obtain ⟨Z21_0, Z21_1, Z21_2, Z21_3, Z21_4, Z21_5, Z21_6, Z21_7, Z21_8, Z21_9, Z21_10, Z21_11, Z21_12, Z21_13, Z21_14, Z21_15, Z21_16, Z21_17, Z21_18, Z21_19, Z21_20, Z21_21, Z21_22, Z21_23, Z21_24, Y21_0, Y21_1, Y21_2, Y21_3, Y21_4, Y21_5, Y21_6, Y21_7, Y21_8, Y21_9, Y21_10, Y21_11, Y21_12, Y21_13, Y21_14, Y21_15, Y21_16, Y21_17, Y21_18, Y21_19, Y21_20, Y21_21, Y21_22, Y21_23, Y21_24⟩ := cz25_ BK500.out
     go_upto_region 8 with (fail)
     go_cut [61] (fun v61 wc => ∃ (kq : Nat) (x61_19 : Bool), v61 = .bool x61_19 ∧ Aside0 (corebankref34_Check.j2 kq x61_19 a0_0 a0_1 a0_2 a0_3 a0_4 a0_5 a0_6 a0_7 a0_8 a0_9 a0_10 a0_11 a0_12 a0_13 a0_14 a0_15 a0_16 a0_17 a0_18 a0_19 a0_20 a0_21 a0_22 l0_23 l0_24 = some r) ∧ Aside0 (kq ≤ k1) ∧ Aside0 (wc.heap[gb500]? = some (.cells #[.int .i64 a0_0, .int .i64 a0_1, .int .i64 a0_2, .int .i64 a0_3, .int .i64 a0_4, .int .i64 a0_5, .int .i64 a0_6, .int .i64 a0_7, .int .i64 a0_8, .int .i64 a0_9, .int .i64 a0_10, .int .i64 a0_11, .int .i64 a0_12, .int .i64 a0_13, .int .i64 a0_14, .int .i64 a0_15, .int .i64 a0_16, .int .i64 a0_17, .int .i64 a0_18, .int .i64 a0_19, .int .i64 a0_20, .string a0_21, .string a0_22, (.slice A0_23 l0_23.length c0_23), (.slice A0_24 l0_24.length c0_24)] 27 (0, 0))) ∧ Aside0 (Below w.heap.size w wc))
     case first =>
      have H := HC20.out
      clear HC20
      replace H := Option.bind_eq_some_iff.mp H
      obtain ⟨t505, A220, H⟩ := H
      replace H : (if a0_3 > t505 then (corebankref34_Check.j2 k1 true a0_0 a0_1 a0_2 a0_3 a0_4 a0_5 a0_6 a0_7 a0_8 a0_9 a0_10 a0_11 a0_12 a0_13 a0_14 a0_15 a0_16 a0_17 a0_18 a0_19 a0_20 a0_21 a0_22 l0_23 l0_24) else ((corebankref34_Interest.f k1 a0_0 a0_1 a0_2 a0_3 a0_4 a0_5 a0_6 a0_7 a0_8 a0_9 a0_10 a0_11 a0_12 a0_13 a0_14 a0_15 a0_16 a0_17 a0_18 a0_19 a0_20 a0_21 a0_22 l0_23 l0_24 9223372036854775807).bind fun t506 => (if a0_4 > t506 then (corebankref34_Check.j2 k1 true a0_0 a0_1 a0_2 a0_3 a0_4 a0_5 a0_6 a0_7 a0_8 a0_9 a0_10 a0_11 a0_12 a0_13 a0_14 a0_15 a0_16 a0_17 a0_18 a0_19 a0_20 a0_21 a0_22 l0_23 l0_24) else (corebankref34_Check.j2 k1 (decide (a0_10 > a0_9)) a0_0 a0_1 a0_2 a0_3 a0_4 a0_5 a0_6 a0_7 a0_8 a0_9 a0_10 a0_11 a0_12 a0_13 a0_14 a0_15 a0_16 a0_17 a0_18 a0_19 a0_20 a0_21 a0_22 l0_23 l0_24)))) = some r := H
      have A22 := Aside0.mk A220
      clear A220
      by_cases c23 : a0_3 > t505
      ·rw [if_pos c23] at H
       have c23b0 : decide (t505 < a0_3) = true := decide_eq_true c23
       clear c23
       (first | rw [c23b0] | (simp only [i64_w, i32_w]; rw [c23b0]) | skip)
       have H' := Aside0.mk H
       clear H
       try go_wp2
       have n0_ := Aside0.mk (blk_drew BK500.out)
       have n1_ := Aside0.mk (below_drew1 HB.out)
       clear BK500
       clear HB
       have BK500 := n0_
       have HB := n1_
       clear n0_ n1_
       refine start_ (n := 19) (S := cS25_ gb500 (.int .i64 a0_0) (.int .i64 a0_1) (.int .i64 a0_2) (.int .i64 a0_3) (.int .i64 a0_4) (.int .i64 a0_5) (.int .i64 a0_6) (.int .i64 a0_7) (.int .i64 a0_8) (.int .i64 a0_9) (.int .i64 a0_10) (.int .i64 a0_11) (.int .i64 a0_12) (.int .i64 a0_13) (.int .i64 a0_14) (.int .i64 a0_15) (.int .i64 a0_16) (.int .i64 a0_17) (.int .i64 a0_18) (.int .i64 a0_19) (.int .i64 a0_20) (.string a0_21) (.string a0_22) (.slice A0_23 l0_23.length c0_23) (.slice A0_24 l0_24.length c0_24)) (ds := []) (nb_ 19 0) (by kernel_rfl) rfl rfl (cc25_ BK500.out) (fun hHeld => ?_); refine with_tabW corebankref34_Check.tab8 corebankref34_Check.bits8 (fun HT_ HW_ => ?_)
       generalize wr.drew = w24 at BK500 HB hHeld ⊢
       refine pz_ 0 43 (nb_ 19 1) HT_.out ?_
       refine take_ (i := 1) (N := some 44) (v := ?_) (a' := ?_) (nb_ 19 3) rfl rfl (take_ofW HT_.out HW_.out (by kernel_rfl)) (fun _ _ _ h => h) (Or.inl ⟨by rfl, ?_⟩) hHeld ?_ ?_
       rotate_left
       ·rintro w' hs_
        first
        | (refine Eq.trans (ldx_ (by rfl) (by rfl) (ldS_ hs_)) ?_; with_reducible rfl)
        | (obtain ⟨s0, s1, s2, s3, s4, s5, s6, s7, s8, s9, s10, s11, s12, s13, s14, s15, s16, s17, s18, s19, s20, s21, s22, s23, s24⟩ := hs_; go_simp; with_reducible rfl)
       rotate_left
       ·simp only [Act.put, List.setIfInBounds_toArray, List.set_cons_zero, List.set_cons_succ, i64_w, i32_w]
        rfl
       refine take_ (i := 2) (N := some 45) (v := ?_) (a' := ?_) (nb_ 19 7) rfl rfl (take_ofW HT_.out HW_.out (by kernel_rfl)) (fun _ _ _ h => h) (Or.inl ⟨by rfl, ?_⟩) hHeld ?_ ?_
       rotate_left
       ·rintro w' hs_
        first
        | (refine Eq.trans (ldx_ (by rfl) (by rfl) (ldS_ hs_)) ?_; with_reducible rfl)
        | (obtain ⟨s0, s1, s2, s3, s4, s5, s6, s7, s8, s9, s10, s11, s12, s13, s14, s15, s16, s17, s18, s19, s20, s21, s22, s23, s24⟩ := hs_; go_simp; with_reducible rfl)
       rotate_left
       ·simp only [Act.put, List.setIfInBounds_toArray, List.set_cons_zero, List.set_cons_succ, i64_w, i32_w]
        rfl
       refine on_ 3 46 (nb_ 19 15) HT_.out (fun K hK => ?_)
       refine goes_ Tryd.func38 (by kernel_rfl) rfl #[.agg #[.int .i64 a0_0, .int .i64 a0_1, .int .i64 a0_2, .int .i64 a0_3, .int .i64 a0_4, .int .i64 a0_5, .int .i64 a0_6, .int .i64 a0_7, .int .i64 a0_8, .int .i64 a0_9, .int .i64 a0_10, .int .i64 a0_11, .int .i64 a0_12, .int .i64 a0_13, .int .i64 a0_14, .int .i64 a0_15, .int .i64 a0_16, .int .i64 a0_17, .int .i64 a0_18, .int .i64 a0_19, .int .i64 a0_20, .string a0_21, .string a0_22, .slice A0_23 l0_23.length c0_23, .slice A0_24 l0_24.length c0_24], .int .i64 9223372036854775807] (by rfl) rfl rfl ql_ ?_
       with_reducible refine (corebankref34_Principal.calls k1 a0_0 a0_1 a0_2 a0_3 a0_4 a0_5 a0_6 a0_7 a0_8 a0_9 a0_10 a0_11 a0_12 a0_13 a0_14 a0_15 a0_16 a0_17 a0_18 a0_19 a0_20 a0_21 a0_22 _ _ l0_23 _ _ l0_24 9223372036854775807 t505 _ ?side1 ?side2 ?side3 ?side4 A22.out).mono ?_
       (case side1 => repeat (first | exact (Kd.C_below HR0_23.out HB.out) | (with_reducible refine Kd.C_alloc ?_ _) | (with_reducible refine Kd.C_drewN ?_ _) | (with_reducible refine Kd.C_drew ?_)))
       (case side2 => exact HC0_23.out)
       (case side3 => repeat (first | exact (Kd.C_below HR0_24.out HB.out) | (with_reducible refine Kd.C_alloc ?_ _) | (with_reducible refine Kd.C_drewN ?_ _) | (with_reducible refine Kd.C_drew ?_)))
       (case side4 => exact HC0_24.out)
       rintro e w25 ⟨rfl, hb⟩
       refine ⟨_, rfl, ?_⟩
       have n0_ := Aside0.mk (blk_below (qk_ BK500.out) hb)
       have n1_ := Aside0.mk (below_step (qb1_ GE500.out HB.out) hb)
       clear BK500
       clear HB
       have BK500 := n0_
       have HB := n1_
       clear n0_ n1_
       (try clear hb)
       (try clear hb2)
       (try clear hk)
       (try clear hi)
       refine hK.out _ _ (cc25_ BK500.out) (fun hHeld => ?_)
       clear hK K
       refine no_ ?_
       refine pz_ 4 47 (nb_ 19 31) HT_.out ?_
       refine pz_ 5 48 (nb_ 19 63) HT_.out ?_
       refine pu_ 6 49 (nb_ 19 127) HT_.out ?_
       refine pu_ 7 50 (nb_ 19 255) HT_.out ?_
       refine pu_ 8 51 (nb_ 19 511) HT_.out ?_
       refine pu_ 9 52 (nb_ 19 1023) HT_.out ?_
       refine pu_ 10 53 (nb_ 19 2047) HT_.out ?_
       refine pz_ 11 54 (nb_ 19 4095) HT_.out ?_
       refine pz_ 12 55 (nb_ 19 8191) HT_.out ?_
       refine pu_ 13 56 (nb_ 19 16383) HT_.out ?_
       refine pu_ 14 57 (nb_ 19 32767) HT_.out ?_
       refine pu_ 15 58 (nb_ 19 65535) HT_.out ?_
       refine pu_ 16 59 (nb_ 19 131071) HT_.out ?_
       refine pu_ 17 60 (nb_ 19 262143) HT_.out ?_
       refine pz_ 18 61 (nb_ 19 524287) HT_.out ?_
       refine done_ (done_of HT_.out (by kernel_rfl)) ?_
       try go_wp2
       go_meet
       case rel => exact ⟨_, (true), qs_, H', ⟨by have := HK1.out; first | omega | exact Nat.le_refl _⟩, ⟨qk_ BK500.out⟩, ⟨qb1_ GE500.out HB.out⟩⟩
      ·rw [if_neg c23] at H
       have c23b0 : decide (t505 < a0_3) = false := decide_eq_false c23
       clear c23
       (first | rw [c23b0] | (simp only [i64_w, i32_w]; rw [c23b0]) | skip)
       replace H := Option.bind_eq_some_iff.mp H
       obtain ⟨t506, A260, H⟩ := H
       replace H : (if a0_4 > t506 then (corebankref34_Check.j2 k1 true a0_0 a0_1 a0_2 a0_3 a0_4 a0_5 a0_6 a0_7 a0_8 a0_9 a0_10 a0_11 a0_12 a0_13 a0_14 a0_15 a0_16 a0_17 a0_18 a0_19 a0_20 a0_21 a0_22 l0_23 l0_24) else (corebankref34_Check.j2 k1 (decide (a0_10 > a0_9)) a0_0 a0_1 a0_2 a0_3 a0_4 a0_5 a0_6 a0_7 a0_8 a0_9 a0_10 a0_11 a0_12 a0_13 a0_14 a0_15 a0_16 a0_17 a0_18 a0_19 a0_20 a0_21 a0_22 l0_23 l0_24)) = some r := H
       have A26 := Aside0.mk A260
       clear A260
       by_cases c27 : a0_4 > t506
       ·rw [if_pos c27] at H
        have c27b0 : decide (t506 < a0_4) = true := decide_eq_true c27
        clear c27
        have H' := Aside0.mk H
        clear H
        try go_wp2
        have n0_ := Aside0.mk (blk_drew BK500.out)
        have n1_ := Aside0.mk (below_drew1 HB.out)
        clear BK500
        clear HB
        have BK500 := n0_
        have HB := n1_
        clear n0_ n1_
        refine start_ (n := 19) (S := cS25_ gb500 (.int .i64 a0_0) (.int .i64 a0_1) (.int .i64 a0_2) (.int .i64 a0_3) (.int .i64 a0_4) (.int .i64 a0_5) (.int .i64 a0_6) (.int .i64 a0_7) (.int .i64 a0_8) (.int .i64 a0_9) (.int .i64 a0_10) (.int .i64 a0_11) (.int .i64 a0_12) (.int .i64 a0_13) (.int .i64 a0_14) (.int .i64 a0_15) (.int .i64 a0_16) (.int .i64 a0_17) (.int .i64 a0_18) (.int .i64 a0_19) (.int .i64 a0_20) (.string a0_21) (.string a0_22) (.slice A0_23 l0_23.length c0_23) (.slice A0_24 l0_24.length c0_24)) (ds := []) (nb_ 19 0) (by kernel_rfl) rfl rfl (cc25_ BK500.out) (fun hHeld => ?_); refine with_tabW corebankref34_Check.tab8 corebankref34_Check.bits8 (fun HT_ HW_ => ?_)
        generalize wr.drew = w28 at BK500 HB hHeld ⊢
        refine pz_ 0 43 (nb_ 19 1) HT_.out ?_
        refine take_ (i := 1) (N := some 44) (v := ?_) (a' := ?_) (nb_ 19 3) rfl rfl (take_ofW HT_.out HW_.out (by kernel_rfl)) (fun _ _ _ h => h) (Or.inl ⟨by rfl, ?_⟩) hHeld ?_ ?_
        rotate_left
        ·rintro w' hs_
         first
         | (refine Eq.trans (ldx_ (by rfl) (by rfl) (ldS_ hs_)) ?_; with_reducible rfl)
         | (obtain ⟨s0, s1, s2, s3, s4, s5, s6, s7, s8, s9, s10, s11, s12, s13, s14, s15, s16, s17, s18, s19, s20, s21, s22, s23, s24⟩ := hs_; go_simp; with_reducible rfl)
        rotate_left
        ·simp only [Act.put, List.setIfInBounds_toArray, List.set_cons_zero, List.set_cons_succ, i64_w, i32_w]
         rfl
        refine take_ (i := 2) (N := some 45) (v := ?_) (a' := ?_) (nb_ 19 7) rfl rfl (take_ofW HT_.out HW_.out (by kernel_rfl)) (fun _ _ _ h => h) (Or.inl ⟨by rfl, ?_⟩) hHeld ?_ ?_
        rotate_left
        ·rintro w' hs_
         first
         | (refine Eq.trans (ldx_ (by rfl) (by rfl) (ldS_ hs_)) ?_; with_reducible rfl)
         | (obtain ⟨s0, s1, s2, s3, s4, s5, s6, s7, s8, s9, s10, s11, s12, s13, s14, s15, s16, s17, s18, s19, s20, s21, s22, s23, s24⟩ := hs_; go_simp; with_reducible rfl)
        rotate_left
        ·simp only [Act.put, List.setIfInBounds_toArray, List.set_cons_zero, List.set_cons_succ, i64_w, i32_w]
         rfl
        refine on_ 3 46 (nb_ 19 15) HT_.out (fun K hK => ?_)
        refine goes_ Tryd.func38 (by kernel_rfl) rfl #[.agg #[.int .i64 a0_0, .int .i64 a0_1, .int .i64 a0_2, .int .i64 a0_3, .int .i64 a0_4, .int .i64 a0_5, .int .i64 a0_6, .int .i64 a0_7, .int .i64 a0_8, .int .i64 a0_9, .int .i64 a0_10, .int .i64 a0_11, .int .i64 a0_12, .int .i64 a0_13, .int .i64 a0_14, .int .i64 a0_15, .int .i64 a0_16, .int .i64 a0_17, .int .i64 a0_18, .int .i64 a0_19, .int .i64 a0_20, .string a0_21, .string a0_22, .slice A0_23 l0_23.length c0_23, .slice A0_24 l0_24.length c0_24], .int .i64 9223372036854775807] (by rfl) rfl rfl ql_ ?_
        with_reducible refine (corebankref34_Principal.calls k1 a0_0 a0_1 a0_2 a0_3 a0_4 a0_5 a0_6 a0_7 a0_8 a0_9 a0_10 a0_11 a0_12 a0_13 a0_14 a0_15 a0_16 a0_17 a0_18 a0_19 a0_20 a0_21 a0_22 _ _ l0_23 _ _ l0_24 9223372036854775807 t505 _ ?side1 ?side2 ?side3 ?side4 A22.out).mono ?_
        (case side1 => repeat (first | exact (Kd.C_below HR0_23.out HB.out) | (with_reducible refine Kd.C_alloc ?_ _) | (with_reducible refine Kd.C_drewN ?_ _) | (with_reducible refine Kd.C_drew ?_)))
        (case side2 => exact HC0_23.out)
        (case side3 => repeat (first | exact (Kd.C_below HR0_24.out HB.out) | (with_reducible refine Kd.C_alloc ?_ _) | (with_reducible refine Kd.C_drewN ?_ _) | (with_reducible refine Kd.C_drew ?_)))
        (case side4 => exact HC0_24.out)
        rintro e w29 ⟨rfl, hb⟩
        refine ⟨_, rfl, ?_⟩
        have n0_ := Aside0.mk (blk_below (qk_ BK500.out) hb)
        have n1_ := Aside0.mk (below_step (qb1_ GE500.out HB.out) hb)
        clear BK500
        clear HB
        have BK500 := n0_
        have HB := n1_
        clear n0_ n1_
        (try clear hb)
        (try clear hb2)
        (try clear hk)
        (try clear hi)
        refine hK.out _ _ (cc25_ BK500.out) (fun hHeld => ?_)
        clear hK K
        refine no_ ?_
        refine pz_ 4 47 (nb_ 19 31) HT_.out ?_
        refine pz_ 5 48 (nb_ 19 63) HT_.out ?_
        refine pz_ 6 49 (nb_ 19 127) HT_.out ?_
        refine take_ (i := 7) (N := some 50) (v := ?_) (a' := ?_) (nb_ 19 255) rfl rfl (take_ofW HT_.out HW_.out (by kernel_rfl)) (fun _ _ _ h => h) (Or.inl ⟨by rfl, ?_⟩) hHeld ?_ ?_
        rotate_left
        ·rintro w' hs_
         first
         | (refine Eq.trans (ldx_ (by rfl) (by rfl) (ldS_ hs_)) ?_; with_reducible rfl)
         | (obtain ⟨s0, s1, s2, s3, s4, s5, s6, s7, s8, s9, s10, s11, s12, s13, s14, s15, s16, s17, s18, s19, s20, s21, s22, s23, s24⟩ := hs_; go_simp; with_reducible rfl)
        rotate_left
        ·simp only [Act.put, List.setIfInBounds_toArray, List.set_cons_zero, List.set_cons_succ, i64_w, i32_w]
         rfl
        refine take_ (i := 8) (N := some 51) (v := ?_) (a' := ?_) (nb_ 19 511) rfl rfl (take_ofW HT_.out HW_.out (by kernel_rfl)) (fun _ _ _ h => h) (Or.inl ⟨by rfl, ?_⟩) hHeld ?_ ?_
        rotate_left
        ·rintro w' hs_
         first
         | (refine Eq.trans (ldx_ (by rfl) (by rfl) (ldS_ hs_)) ?_; with_reducible rfl)
         | (obtain ⟨s0, s1, s2, s3, s4, s5, s6, s7, s8, s9, s10, s11, s12, s13, s14, s15, s16, s17, s18, s19, s20, s21, s22, s23, s24⟩ := hs_; go_simp; with_reducible rfl)
        rotate_left
        ·simp only [Act.put, List.setIfInBounds_toArray, List.set_cons_zero, List.set_cons_succ, i64_w, i32_w]
         rfl
        refine on_ 9 52 (nb_ 19 1023) HT_.out (fun K hK => ?_)
        refine goes_ Tryd.func39 (by kernel_rfl) rfl #[.agg #[.int .i64 a0_0, .int .i64 a0_1, .int .i64 a0_2, .int .i64 a0_3, .int .i64 a0_4, .int .i64 a0_5, .int .i64 a0_6, .int .i64 a0_7, .int .i64 a0_8, .int .i64 a0_9, .int .i64 a0_10, .int .i64 a0_11, .int .i64 a0_12, .int .i64 a0_13, .int .i64 a0_14, .int .i64 a0_15, .int .i64 a0_16, .int .i64 a0_17, .int .i64 a0_18, .int .i64 a0_19, .int .i64 a0_20, .string a0_21, .string a0_22, .slice A0_23 l0_23.length c0_23, .slice A0_24 l0_24.length c0_24], .int .i64 9223372036854775807] (by rfl) rfl rfl ql_ ?_
        with_reducible refine (corebankref34_Interest.calls k1 a0_0 a0_1 a0_2 a0_3 a0_4 a0_5 a0_6 a0_7 a0_8 a0_9 a0_10 a0_11 a0_12 a0_13 a0_14 a0_15 a0_16 a0_17 a0_18 a0_19 a0_20 a0_21 a0_22 _ _ l0_23 _ _ l0_24 9223372036854775807 t506 _ ?side1 ?side2 ?side3 ?side4 A26.out).mono ?_
        (case side1 => repeat (first | exact (Kd.C_below HR0_23.out HB.out) | (with_reducible refine Kd.C_alloc ?_ _) | (with_reducible refine Kd.C_drewN ?_ _) | (with_reducible refine Kd.C_drew ?_)))
        (case side2 => exact HC0_23.out)
        (case side3 => repeat (first | exact (Kd.C_below HR0_24.out HB.out) | (with_reducible refine Kd.C_alloc ?_ _) | (with_reducible refine Kd.C_drewN ?_ _) | (with_reducible refine Kd.C_drew ?_)))
        (case side4 => exact HC0_24.out)
        rintro e w30 ⟨rfl, hb⟩
        refine ⟨_, rfl, ?_⟩
        have n0_ := Aside0.mk (blk_below (qk_ BK500.out) hb)
        have n1_ := Aside0.mk (below_step (qb1_ GE500.out HB.out) hb)
        clear BK500
        clear HB
        have BK500 := n0_
        have HB := n1_
        clear n0_ n1_
        (try clear hb)
        (try clear hb2)
        (try clear hk)
        (try clear hi)
        refine hK.out _ _ (cc25_ BK500.out) (fun hHeld => ?_)
        clear hK K
        refine no_ ?_
        refine pz_ 10 53 (nb_ 19 2047) HT_.out ?_
        refine pz_ 11 54 (nb_ 19 4095) HT_.out ?_
        refine pz_ 12 55 (nb_ 19 8191) HT_.out ?_
        refine pu_ 13 56 (nb_ 19 16383) HT_.out ?_
        refine pu_ 14 57 (nb_ 19 32767) HT_.out ?_
        refine pu_ 15 58 (nb_ 19 65535) HT_.out ?_
        refine pu_ 16 59 (nb_ 19 131071) HT_.out ?_
        refine pu_ 17 60 (nb_ 19 262143) HT_.out ?_
        refine pz_ 18 61 (nb_ 19 524287) HT_.out ?_
        refine done_ (done_of HT_.out (by kernel_rfl)) ?_
        try go_wp2
        go_meet
        case rel => exact ⟨_, (true), qs_, H', ⟨by have := HK1.out; first | omega | exact Nat.le_refl _⟩, ⟨qk_ BK500.out⟩, ⟨qb1_ GE500.out HB.out⟩⟩
       ·rw [if_neg c27] at H
        have c27b0 : decide (t506 < a0_4) = false := decide_eq_false c27
        clear c27
        have H' := Aside0.mk H
        clear H
        try go_wp2
        have n0_ := Aside0.mk (blk_drew BK500.out)
        have n1_ := Aside0.mk (below_drew1 HB.out)
        clear BK500
        clear HB
        have BK500 := n0_
        have HB := n1_
        clear n0_ n1_
        refine start_ (n := 19) (S := cS25_ gb500 (.int .i64 a0_0) (.int .i64 a0_1) (.int .i64 a0_2) (.int .i64 a0_3) (.int .i64 a0_4) (.int .i64 a0_5) (.int .i64 a0_6) (.int .i64 a0_7) (.int .i64 a0_8) (.int .i64 a0_9) (.int .i64 a0_10) (.int .i64 a0_11) (.int .i64 a0_12) (.int .i64 a0_13) (.int .i64 a0_14) (.int .i64 a0_15) (.int .i64 a0_16) (.int .i64 a0_17) (.int .i64 a0_18) (.int .i64 a0_19) (.int .i64 a0_20) (.string a0_21) (.string a0_22) (.slice A0_23 l0_23.length c0_23) (.slice A0_24 l0_24.length c0_24)) (ds := []) (nb_ 19 0) (by kernel_rfl) rfl rfl (cc25_ BK500.out) (fun hHeld => ?_); refine with_tabW corebankref34_Check.tab8 corebankref34_Check.bits8 (fun HT_ HW_ => ?_)
        generalize wr.drew = w31 at BK500 HB hHeld ⊢
        refine pz_ 0 43 (nb_ 19 1) HT_.out ?_
        refine take_ (i := 1) (N := some 44) (v := ?_) (a' := ?_) (nb_ 19 3) rfl rfl (take_ofW HT_.out HW_.out (by kernel_rfl)) (fun _ _ _ h => h) (Or.inl ⟨by rfl, ?_⟩) hHeld ?_ ?_
        rotate_left
        ·rintro w' hs_
         first
         | (refine Eq.trans (ldx_ (by rfl) (by rfl) (ldS_ hs_)) ?_; with_reducible rfl)
         | (obtain ⟨s0, s1, s2, s3, s4, s5, s6, s7, s8, s9, s10, s11, s12, s13, s14, s15, s16, s17, s18, s19, s20, s21, s22, s23, s24⟩ := hs_; go_simp; with_reducible rfl)
        rotate_left
        ·simp only [Act.put, List.setIfInBounds_toArray, List.set_cons_zero, List.set_cons_succ, i64_w, i32_w]
         rfl
        refine take_ (i := 2) (N := some 45) (v := ?_) (a' := ?_) (nb_ 19 7) rfl rfl (take_ofW HT_.out HW_.out (by kernel_rfl)) (fun _ _ _ h => h) (Or.inl ⟨by rfl, ?_⟩) hHeld ?_ ?_
        rotate_left
        ·rintro w' hs_
         first
         | (refine Eq.trans (ldx_ (by rfl) (by rfl) (ldS_ hs_)) ?_; with_reducible rfl)
         | (obtain ⟨s0, s1, s2, s3, s4, s5, s6, s7, s8, s9, s10, s11, s12, s13, s14, s15, s16, s17, s18, s19, s20, s21, s22, s23, s24⟩ := hs_; go_simp; with_reducible rfl)
        rotate_left
        ·simp only [Act.put, List.setIfInBounds_toArray, List.set_cons_zero, List.set_cons_succ, i64_w, i32_w]
         rfl
        refine on_ 3 46 (nb_ 19 15) HT_.out (fun K hK => ?_)
        refine goes_ Tryd.func38 (by kernel_rfl) rfl #[.agg #[.int .i64 a0_0, .int .i64 a0_1, .int .i64 a0_2, .int .i64 a0_3, .int .i64 a0_4, .int .i64 a0_5, .int .i64 a0_6, .int .i64 a0_7, .int .i64 a0_8, .int .i64 a0_9, .int .i64 a0_10, .int .i64 a0_11, .int .i64 a0_12, .int .i64 a0_13, .int .i64 a0_14, .int .i64 a0_15, .int .i64 a0_16, .int .i64 a0_17, .int .i64 a0_18, .int .i64 a0_19, .int .i64 a0_20, .string a0_21, .string a0_22, .slice A0_23 l0_23.length c0_23, .slice A0_24 l0_24.length c0_24], .int .i64 9223372036854775807] (by rfl) rfl rfl ql_ ?_
        with_reducible refine (corebankref34_Principal.calls k1 a0_0 a0_1 a0_2 a0_3 a0_4 a0_5 a0_6 a0_7 a0_8 a0_9 a0_10 a0_11 a0_12 a0_13 a0_14 a0_15 a0_16 a0_17 a0_18 a0_19 a0_20 a0_21 a0_22 _ _ l0_23 _ _ l0_24 9223372036854775807 t505 _ ?side1 ?side2 ?side3 ?side4 A22.out).mono ?_
        (case side1 => repeat (first | exact (Kd.C_below HR0_23.out HB.out) | (with_reducible refine Kd.C_alloc ?_ _) | (with_reducible refine Kd.C_drewN ?_ _) | (with_reducible refine Kd.C_drew ?_)))
        (case side2 => exact HC0_23.out)
        (case side3 => repeat (first | exact (Kd.C_below HR0_24.out HB.out) | (with_reducible refine Kd.C_alloc ?_ _) | (with_reducible refine Kd.C_drewN ?_ _) | (with_reducible refine Kd.C_drew ?_)))
        (case side4 => exact HC0_24.out)
        rintro e w32 ⟨rfl, hb⟩
        refine ⟨_, rfl, ?_⟩
        have n0_ := Aside0.mk (blk_below (qk_ BK500.out) hb)
        have n1_ := Aside0.mk (below_step (qb1_ GE500.out HB.out) hb)
        clear BK500
        clear HB
        have BK500 := n0_
        have HB := n1_
        clear n0_ n1_
        (try clear hb)
        (try clear hb2)
        (try clear hk)
        (try clear hi)
        refine hK.out _ _ (cc25_ BK500.out) (fun hHeld => ?_)
        clear hK K
        refine no_ ?_
        refine pz_ 4 47 (nb_ 19 31) HT_.out ?_
        refine pz_ 5 48 (nb_ 19 63) HT_.out ?_
        refine pz_ 6 49 (nb_ 19 127) HT_.out ?_
        refine take_ (i := 7) (N := some 50) (v := ?_) (a' := ?_) (nb_ 19 255) rfl rfl (take_ofW HT_.out HW_.out (by kernel_rfl)) (fun _ _ _ h => h) (Or.inl ⟨by rfl, ?_⟩) hHeld ?_ ?_
        rotate_left
        ·rintro w' hs_
         first
         | (refine Eq.trans (ldx_ (by rfl) (by rfl) (ldS_ hs_)) ?_; with_reducible rfl)
         | (obtain ⟨s0, s1, s2, s3, s4, s5, s6, s7, s8, s9, s10, s11, s12, s13, s14, s15, s16, s17, s18, s19, s20, s21, s22, s23, s24⟩ := hs_; go_simp; with_reducible rfl)
        rotate_left
        ·simp only [Act.put, List.setIfInBounds_toArray, List.set_cons_zero, List.set_cons_succ, i64_w, i32_w]
         rfl
        refine take_ (i := 8) (N := some 51) (v := ?_) (a' := ?_) (nb_ 19 511) rfl rfl (take_ofW HT_.out HW_.out (by kernel_rfl)) (fun _ _ _ h => h) (Or.inl ⟨by rfl, ?_⟩) hHeld ?_ ?_
        rotate_left
        ·rintro w' hs_
         first
         | (refine Eq.trans (ldx_ (by rfl) (by rfl) (ldS_ hs_)) ?_; with_reducible rfl)
         | (obtain ⟨s0, s1, s2, s3, s4, s5, s6, s7, s8, s9, s10, s11, s12, s13, s14, s15, s16, s17, s18, s19, s20, s21, s22, s23, s24⟩ := hs_; go_simp; with_reducible rfl)
        rotate_left
        ·simp only [Act.put, List.setIfInBounds_toArray, List.set_cons_zero, List.set_cons_succ, i64_w, i32_w]
         rfl
        refine on_ 9 52 (nb_ 19 1023) HT_.out (fun K hK => ?_)
        refine goes_ Tryd.func39 (by kernel_rfl) rfl #[.agg #[.int .i64 a0_0, .int .i64 a0_1, .int .i64 a0_2, .int .i64 a0_3, .int .i64 a0_4, .int .i64 a0_5, .int .i64 a0_6, .int .i64 a0_7, .int .i64 a0_8, .int .i64 a0_9, .int .i64 a0_10, .int .i64 a0_11, .int .i64 a0_12, .int .i64 a0_13, .int .i64 a0_14, .int .i64 a0_15, .int .i64 a0_16, .int .i64 a0_17, .int .i64 a0_18, .int .i64 a0_19, .int .i64 a0_20, .string a0_21, .string a0_22, .slice A0_23 l0_23.length c0_23, .slice A0_24 l0_24.length c0_24], .int .i64 9223372036854775807] (by rfl) rfl rfl ql_ ?_
        with_reducible refine (corebankref34_Interest.calls k1 a0_0 a0_1 a0_2 a0_3 a0_4 a0_5 a0_6 a0_7 a0_8 a0_9 a0_10 a0_11 a0_12 a0_13 a0_14 a0_15 a0_16 a0_17 a0_18 a0_19 a0_20 a0_21 a0_22 _ _ l0_23 _ _ l0_24 9223372036854775807 t506 _ ?side1 ?side2 ?side3 ?side4 A26.out).mono ?_
        (case side1 => repeat (first | exact (Kd.C_below HR0_23.out HB.out) | (with_reducible refine Kd.C_alloc ?_ _) | (with_reducible refine Kd.C_drewN ?_ _) | (with_reducible refine Kd.C_drew ?_)))
        (case side2 => exact HC0_23.out)
        (case side3 => repeat (first | exact (Kd.C_below HR0_24.out HB.out) | (with_reducible refine Kd.C_alloc ?_ _) | (with_reducible refine Kd.C_drewN ?_ _) | (with_reducible refine Kd.C_drew ?_)))
        (case side4 => exact HC0_24.out)
        rintro e w33 ⟨rfl, hb⟩
        refine ⟨_, rfl, ?_⟩
        have n0_ := Aside0.mk (blk_below (qk_ BK500.out) hb)
        have n1_ := Aside0.mk (below_step (qb1_ GE500.out HB.out) hb)
        clear BK500
        clear HB
        have BK500 := n0_
        have HB := n1_
        clear n0_ n1_
        (try clear hb)
        (try clear hb2)
        (try clear hk)
        (try clear hi)
        refine hK.out _ _ (cc25_ BK500.out) (fun hHeld => ?_)
        clear hK K
        refine no_ ?_
        refine pz_ 10 53 (nb_ 19 2047) HT_.out ?_
        refine pz_ 11 54 (nb_ 19 4095) HT_.out ?_
        refine pz_ 12 55 (nb_ 19 8191) HT_.out ?_
        refine pz_ 13 56 (nb_ 19 16383) HT_.out ?_
        refine pz_ 15 58 (nb_ 19 49151) HT_.out ?_
        refine take_ (i := 14) (N := some 57) (v := ?_) (a' := ?_) (nb_ 19 65535) rfl rfl (take_ofW HT_.out HW_.out (by kernel_rfl)) (fun _ _ _ h => h) (Or.inl ⟨by rfl, ?_⟩) hHeld ?_ ?_
        rotate_left
        ·rintro w' hs_
         first
         | (refine Eq.trans (ldx_ (by rfl) (by rfl) (ldS_ hs_)) ?_; with_reducible rfl)
         | (obtain ⟨s0, s1, s2, s3, s4, s5, s6, s7, s8, s9, s10, s11, s12, s13, s14, s15, s16, s17, s18, s19, s20, s21, s22, s23, s24⟩ := hs_; go_simp; with_reducible rfl)
        rotate_left
        ·simp only [Act.put, List.setIfInBounds_toArray, List.set_cons_zero, List.set_cons_succ, i64_w, i32_w]
         rfl
        refine take_ (i := 16) (N := some 59) (v := ?_) (a' := ?_) (nb_ 19 131071) rfl rfl (take_ofW HT_.out HW_.out (by kernel_rfl)) (fun _ _ _ h => h) (Or.inl ⟨by rfl, ?_⟩) hHeld ?_ ?_
        rotate_left
        ·rintro w' hs_
         first
         | (refine Eq.trans (ldx_ (by rfl) (by rfl) (ldS_ hs_)) ?_; with_reducible rfl)
         | (obtain ⟨s0, s1, s2, s3, s4, s5, s6, s7, s8, s9, s10, s11, s12, s13, s14, s15, s16, s17, s18, s19, s20, s21, s22, s23, s24⟩ := hs_; go_simp; with_reducible rfl)
        rotate_left
        ·simp only [Act.put, List.setIfInBounds_toArray, List.set_cons_zero, List.set_cons_succ, i64_w, i32_w]
         rfl
        refine pz_ 17 60 (nb_ 19 262143) HT_.out ?_
        refine pz_ 18 61 (nb_ 19 524287) HT_.out ?_
        refine done_ (done_of HT_.out (by kernel_rfl)) ?_
        try go_wp2
        go_meet
        case rel => exact ⟨_, (decide (a0_10 > a0_9)), qs_, H', ⟨by have := HK1.out; first | omega | exact Nat.le_refl _⟩, ⟨qk_ BK500.out⟩, ⟨qb1_ GE500.out HB.out⟩⟩
     case rest =>
      clear HC20
      try clear c2
      try clear p2
      try clear c3
      try clear c23
      try clear c23b0
      try clear c27
      try clear c27b0
      (try clear Z21_22 Z21_23 Z21_24 Y21_0 Y21_1 Y21_10 Y21_11 Y21_12 Y21_13 Y21_14 Y21_15 Y21_16 Y21_17 Y21_18 Y21_19 Y21_2 Y21_20 Y21_21 Y21_22 Y21_23 Y21_24 Y21_3 Y21_4 Y21_5 Y21_6 Y21_7 Y21_8 Y21_9)
      obtain ⟨kq, x61_19, rfl, HA, HJ19, BK500, HB⟩ := hcut
      cases kq with
      | zero => exact absurd HA.out (by simp [corebankref34_Check.j2])
      | succ kj19 =>
       have H := HA.out
       clear HA
       simp only [corebankref34_Check.j2] at H
       by_cases c34 : x61_19 = true
       ·subst c34
        have H1 : (some 25) = some r := by rw [if_pos rfl] at H; exact H
        clear H
        have H := H1
        clear H1
        obtain rfl := Option.some.inj H
        go_wp2
        go_ret
        exact ⟨qe_, qb1_ GE500.out HB.out⟩
       ·replace c34 := Bool.eq_false_iff.mpr c34
        subst c34
        have H1 : (if (l0_24.length : Int) = 0 then ((corebankref34_Principal.f kj19 a0_0 a0_1 a0_2 a0_3 a0_4 a0_5 a0_6 a0_7 a0_8 a0_9 a0_10 a0_11 a0_12 a0_13 a0_14 a0_15 a0_16 a0_17 a0_18 a0_19 a0_20 a0_21 a0_22 l0_23 l0_24 9223372036854775807).bind fun t507 => (if t507 = a0_12 then (if a0_2 = 3 then (corebankref34_Check.j3 kj19 false a0_0 a0_1 a0_2 a0_3 a0_4 a0_5 a0_6 a0_7 a0_8 a0_9 a0_10 a0_11 a0_12 a0_13 a0_14 a0_15 a0_16 a0_17 a0_18 a0_19 a0_20 a0_21 a0_22 l0_23 l0_24) else ((corebankref34_Left.f kj19 a0_0 a0_1 a0_2 a0_3 a0_4 a0_5 a0_6 a0_7 a0_8 a0_9 a0_10 a0_11 a0_12 a0_13 a0_14 a0_15 a0_16 a0_17 a0_18 a0_19 a0_20 a0_21 a0_22 l0_23 l0_24).bind fun t508 => (corebankref34_Check.j3 kj19 (t508 != (a0_2 == 1)) a0_0 a0_1 a0_2 a0_3 a0_4 a0_5 a0_6 a0_7 a0_8 a0_9 a0_10 a0_11 a0_12 a0_13 a0_14 a0_15 a0_16 a0_17 a0_18 a0_19 a0_20 a0_21 a0_22 l0_23 l0_24))) else (corebankref34_Check.j3 kj19 true a0_0 a0_1 a0_2 a0_3 a0_4 a0_5 a0_6 a0_7 a0_8 a0_9 a0_10 a0_11 a0_12 a0_13 a0_14 a0_15 a0_16 a0_17 a0_18 a0_19 a0_20 a0_21 a0_22 l0_23 l0_24))) else (if a0_2 = 3 then (corebankref34_Check.j3 kj19 false a0_0 a0_1 a0_2 a0_3 a0_4 a0_5 a0_6 a0_7 a0_8 a0_9 a0_10 a0_11 a0_12 a0_13 a0_14 a0_15 a0_16 a0_17 a0_18 a0_19 a0_20 a0_21 a0_22 l0_23 l0_24) else ((corebankref34_Left.f kj19 a0_0 a0_1 a0_2 a0_3 a0_4 a0_5 a0_6 a0_7 a0_8 a0_9 a0_10 a0_11 a0_12 a0_13 a0_14 a0_15 a0_16 a0_17 a0_18 a0_19 a0_20 a0_21 a0_22 l0_23 l0_24).bind fun t509 => (corebankref34_Check.j3 kj19 (t509 != (a0_2 == 1)) a0_0 a0_1 a0_2 a0_3 a0_4 a0_5 a0_6 a0_7 a0_8 a0_9 a0_10 a0_11 a0_12 a0_13 a0_14 a0_15 a0_16 a0_17 a0_18 a0_19 a0_20 a0_21 a0_22 l0_23 l0_24)))) = some r := by rw [if_neg (show ¬ (false = true) by decide)] at H; exact H
        clear H
        have H := H1
        clear H1
        have HC35 := Aside0.mk H
        clear H
        go_upto_region 10 with (fail)
        go_cut [86] (fun v86 wc => ∃ (kq : Nat) (x86_34 : Bool), v86 = .bool x86_34 ∧ Aside0 (corebankref34_Check.j3 kq x86_34 a0_0 a0_1 a0_2 a0_3 a0_4 a0_5 a0_6 a0_7 a0_8 a0_9 a0_10 a0_11 a0_12 a0_13 a0_14 a0_15 a0_16 a0_17 a0_18 a0_19 a0_20 a0_21 a0_22 l0_23 l0_24 = some r) ∧ Aside0 (kq ≤ kj19) ∧ Aside0 (wc.heap[gb500]? = some (.cells #[.int .i64 a0_0, .int .i64 a0_1, .int .i64 a0_2, .int .i64 a0_3, .int .i64 a0_4, .int .i64 a0_5, .int .i64 a0_6, .int .i64 a0_7, .int .i64 a0_8, .int .i64 a0_9, .int .i64 a0_10, .int .i64 a0_11, .int .i64 a0_12, .int .i64 a0_13, .int .i64 a0_14, .int .i64 a0_15, .int .i64 a0_16, .int .i64 a0_17, .int .i64 a0_18, .int .i64 a0_19, .int .i64 a0_20, .string a0_21, .string a0_22, (.slice A0_23 l0_23.length c0_23), (.slice A0_24 l0_24.length c0_24)] 27 (0, 0))) ∧ Aside0 (Below w.heap.size w wc))
        case first =>
         have H := HC35.out
         clear HC35
         by_cases c36 : (l0_24.length : Int) = 0
         ·rw [if_pos c36] at H
          have c36b0 : ((l0_24.length : Int) == 0) = true := beq_iff_eq.mpr c36
          have c36b1 : ((l0_24.length : Int) != 0) = false := bne_eq_false_iff_eq.mpr c36
          clear c36
          (first | rw [c36b0] | (simp only [i64_w, i32_w]; rw [c36b0]) | skip)
          replace H := Option.bind_eq_some_iff.mp H
          obtain ⟨t507, A370, H⟩ := H
          replace H : (if t507 = a0_12 then (if a0_2 = 3 then (corebankref34_Check.j3 kj19 false a0_0 a0_1 a0_2 a0_3 a0_4 a0_5 a0_6 a0_7 a0_8 a0_9 a0_10 a0_11 a0_12 a0_13 a0_14 a0_15 a0_16 a0_17 a0_18 a0_19 a0_20 a0_21 a0_22 l0_23 l0_24) else ((corebankref34_Left.f kj19 a0_0 a0_1 a0_2 a0_3 a0_4 a0_5 a0_6 a0_7 a0_8 a0_9 a0_10 a0_11 a0_12 a0_13 a0_14 a0_15 a0_16 a0_17 a0_18 a0_19 a0_20 a0_21 a0_22 l0_23 l0_24).bind fun t508 => (corebankref34_Check.j3 kj19 (t508 != (a0_2 == 1)) a0_0 a0_1 a0_2 a0_3 a0_4 a0_5 a0_6 a0_7 a0_8 a0_9 a0_10 a0_11 a0_12 a0_13 a0_14 a0_15 a0_16 a0_17 a0_18 a0_19 a0_20 a0_21 a0_22 l0_23 l0_24))) else (corebankref34_Check.j3 kj19 true a0_0 a0_1 a0_2 a0_3 a0_4 a0_5 a0_6 a0_7 a0_8 a0_9 a0_10 a0_11 a0_12 a0_13 a0_14 a0_15 a0_16 a0_17 a0_18 a0_19 a0_20 a0_21 a0_22 l0_23 l0_24)) = some r := H
          have A37 := Aside0.mk A370
          clear A370
          by_cases c38 : t507 = a0_12
          ·rw [if_pos c38] at H
           have c38b0 : (t507 == a0_12) = true := beq_iff_eq.mpr c38
           have c38b1 : (t507 != a0_12) = false := bne_eq_false_iff_eq.mpr c38
           clear c38
           by_cases c39 : a0_2 = 3
           ·rw [if_pos c39] at H
            have c39b0 : (a0_2 == 3) = true := beq_iff_eq.mpr c39
            have c39b1 : (a0_2 != 3) = false := bne_eq_false_iff_eq.mpr c39
            clear c39
            have H' := Aside0.mk H
            clear H
            try go_wp2
            have n0_ := Aside0.mk (blk_drew BK500.out)
            have n1_ := Aside0.mk (below_drew1 HB.out)
            clear BK500
            clear HB
            have BK500 := n0_
            have HB := n1_
            clear n0_ n1_
            refine start_ (n := 25) (S := cS25_ gb500 (.int .i64 a0_0) (.int .i64 a0_1) (.int .i64 a0_2) (.int .i64 a0_3) (.int .i64 a0_4) (.int .i64 a0_5) (.int .i64 a0_6) (.int .i64 a0_7) (.int .i64 a0_8) (.int .i64 a0_9) (.int .i64 a0_10) (.int .i64 a0_11) (.int .i64 a0_12) (.int .i64 a0_13) (.int .i64 a0_14) (.int .i64 a0_15) (.int .i64 a0_16) (.int .i64 a0_17) (.int .i64 a0_18) (.int .i64 a0_19) (.int .i64 a0_20) (.string a0_21) (.string a0_22) (.slice A0_23 l0_23.length c0_23) (.slice A0_24 l0_24.length c0_24)) (ds := []) (nb_ 25 0) (by kernel_rfl) rfl rfl (cc25_ BK500.out) (fun hHeld => ?_); refine with_tabW corebankref34_Check.tab10 corebankref34_Check.bits10 (fun HT_ HW_ => ?_)
            generalize wc.drew = w40 at BK500 HB hHeld ⊢
            refine pz_ 0 62 (nb_ 25 1) HT_.out ?_
            refine take_ (i := 1) (N := some 63) (v := ?_) (a' := ?_) (nb_ 25 3) rfl rfl (take_ofW HT_.out HW_.out (by kernel_rfl)) (fun _ _ _ h => h) (Or.inl ⟨by rfl, ?_⟩) hHeld ?_ ?_
            rotate_left
            ·rintro w' hs_
             first
             | (refine Eq.trans (ldx_ (by rfl) (by rfl) (ldS_ hs_)) ?_; with_reducible rfl)
             | (obtain ⟨s0, s1, s2, s3, s4, s5, s6, s7, s8, s9, s10, s11, s12, s13, s14, s15, s16, s17, s18, s19, s20, s21, s22, s23, s24⟩ := hs_; go_simp; with_reducible rfl)
            rotate_left
            ·simp only [Act.put, List.setIfInBounds_toArray, List.set_cons_zero, List.set_cons_succ, i64_w, i32_w]
             rfl
            refine pz_ 2 64 (nb_ 25 7) HT_.out ?_
            refine pz_ 3 65 (nb_ 25 15) HT_.out ?_
            refine pz_ 4 66 (nb_ 25 31) HT_.out ?_
            refine pz_ 7 69 (nb_ 25 159) HT_.out ?_
            refine pz_ 8 70 (nb_ 25 415) HT_.out ?_
            refine take_ (i := 5) (N := some 67) (v := ?_) (a' := ?_) (nb_ 25 447) rfl rfl (take_ofW HT_.out HW_.out (by kernel_rfl)) (fun _ _ _ h => h) (Or.inl ⟨by rfl, ?_⟩) hHeld ?_ ?_
            rotate_left
            ·rintro w' hs_
             first
             | (refine Eq.trans (ldx_ (by rfl) (by rfl) (ldS_ hs_)) ?_; with_reducible rfl)
             | (obtain ⟨s0, s1, s2, s3, s4, s5, s6, s7, s8, s9, s10, s11, s12, s13, s14, s15, s16, s17, s18, s19, s20, s21, s22, s23, s24⟩ := hs_; go_simp; with_reducible rfl)
            rotate_left
            ·simp only [Act.put, List.setIfInBounds_toArray, List.set_cons_zero, List.set_cons_succ, i64_w, i32_w]
             rfl
            refine take_ (i := 9) (N := some 71) (v := ?_) (a' := ?_) (nb_ 25 959) rfl rfl (take_ofW HT_.out HW_.out (by kernel_rfl)) (fun _ _ _ h => h) (Or.inl ⟨by rfl, ?_⟩) hHeld ?_ ?_
            rotate_left
            ·rintro w' hs_
             first
             | (refine Eq.trans (ldx_ (by rfl) (by rfl) (ldS_ hs_)) ?_; with_reducible rfl)
             | (obtain ⟨s0, s1, s2, s3, s4, s5, s6, s7, s8, s9, s10, s11, s12, s13, s14, s15, s16, s17, s18, s19, s20, s21, s22, s23, s24⟩ := hs_; go_simp; with_reducible rfl)
            rotate_left
            ·simp only [Act.put, List.setIfInBounds_toArray, List.set_cons_zero, List.set_cons_succ, i64_w, i32_w]
             rfl
            refine on_ 6 68 (nb_ 25 1023) HT_.out (fun K hK => ?_)
            refine goes_ Tryd.func38 (by kernel_rfl) rfl #[.agg #[.int .i64 a0_0, .int .i64 a0_1, .int .i64 a0_2, .int .i64 a0_3, .int .i64 a0_4, .int .i64 a0_5, .int .i64 a0_6, .int .i64 a0_7, .int .i64 a0_8, .int .i64 a0_9, .int .i64 a0_10, .int .i64 a0_11, .int .i64 a0_12, .int .i64 a0_13, .int .i64 a0_14, .int .i64 a0_15, .int .i64 a0_16, .int .i64 a0_17, .int .i64 a0_18, .int .i64 a0_19, .int .i64 a0_20, .string a0_21, .string a0_22, .slice A0_23 l0_23.length c0_23, .slice A0_24 l0_24.length c0_24], .int .i64 9223372036854775807] (by rfl) rfl rfl ql_ ?_
            with_reducible refine (corebankref34_Principal.calls kj19 a0_0 a0_1 a0_2 a0_3 a0_4 a0_5 a0_6 a0_7 a0_8 a0_9 a0_10 a0_11 a0_12 a0_13 a0_14 a0_15 a0_16 a0_17 a0_18 a0_19 a0_20 a0_21 a0_22 _ _ l0_23 _ _ l0_24 9223372036854775807 t507 _ ?side1 ?side2 ?side3 ?side4 A37.out).mono ?_
            (case side1 => repeat (first | exact (Kd.C_below HR0_23.out HB.out) | (with_reducible refine Kd.C_alloc ?_ _) | (with_reducible refine Kd.C_drewN ?_ _) | (with_reducible refine Kd.C_drew ?_)))
            (case side2 => exact HC0_23.out)
            (case side3 => repeat (first | exact (Kd.C_below HR0_24.out HB.out) | (with_reducible refine Kd.C_alloc ?_ _) | (with_reducible refine Kd.C_drewN ?_ _) | (with_reducible refine Kd.C_drew ?_)))
            (case side4 => exact HC0_24.out)
            rintro e w41 ⟨rfl, hb⟩
            refine ⟨_, rfl, ?_⟩
            have n0_ := Aside0.mk (blk_below (qk_ BK500.out) hb)
            have n1_ := Aside0.mk (below_step (qb1_ GE500.out HB.out) hb)
            clear BK500
            clear HB
            have BK500 := n0_
            have HB := n1_
            clear n0_ n1_
            (try clear hb)
            (try clear hb2)
            (try clear hk)
            (try clear hi)
            refine hK.out _ _ (cc25_ BK500.out) (fun hHeld => ?_)
            clear hK K
            refine no_ ?_
            refine pz_ 10 72 (nb_ 25 2047) HT_.out ?_
            refine pz_ 11 73 (nb_ 25 4095) HT_.out ?_
            refine pz_ 12 74 (nb_ 25 8191) HT_.out ?_
            refine pz_ 13 75 (nb_ 25 16383) HT_.out ?_
            refine take_ (i := 14) (N := some 76) (v := ?_) (a' := ?_) (nb_ 25 32767) rfl rfl (take_ofW HT_.out HW_.out (by kernel_rfl)) (fun _ _ _ h => h) (Or.inl ⟨by rfl, ?_⟩) hHeld ?_ ?_
            rotate_left
            ·rintro w' hs_
             first
             | (refine Eq.trans (ldx_ (by rfl) (by rfl) (ldS_ hs_)) ?_; with_reducible rfl)
             | (obtain ⟨s0, s1, s2, s3, s4, s5, s6, s7, s8, s9, s10, s11, s12, s13, s14, s15, s16, s17, s18, s19, s20, s21, s22, s23, s24⟩ := hs_; go_simp; with_reducible rfl)
            rotate_left
            ·simp only [Act.put, List.setIfInBounds_toArray, List.set_cons_zero, List.set_cons_succ, i64_w, i32_w]
             rfl
            refine pz_ 15 77 (nb_ 25 65535) HT_.out ?_
            refine pz_ 16 78 (nb_ 25 131071) HT_.out ?_
            refine pu_ 17 79 (nb_ 25 262143) HT_.out ?_
            refine pu_ 18 80 (nb_ 25 524287) HT_.out ?_
            refine pu_ 19 81 (nb_ 25 1048575) HT_.out ?_
            refine pu_ 20 82 (nb_ 25 2097151) HT_.out ?_
            refine pu_ 21 83 (nb_ 25 4194303) HT_.out ?_
            refine pu_ 22 84 (nb_ 25 8388607) HT_.out ?_
            refine pz_ 23 85 (nb_ 25 16777215) HT_.out ?_
            refine pz_ 24 86 (nb_ 25 33554431) HT_.out ?_
            refine done_ (done_of HT_.out (by kernel_rfl)) ?_
            try go_wp2
            go_meet
            case rel => exact ⟨_, (false), qs_, H', ⟨by have := HK1.out; have := HJ19.out; first | omega | exact Nat.le_refl _⟩, ⟨qk_ BK500.out⟩, ⟨qb1_ GE500.out HB.out⟩⟩
           ·rw [if_neg c39] at H
            have c39b0 : (a0_2 == 3) = false := beq_eq_false_iff_ne.mpr c39
            have c39b1 : (a0_2 != 3) = true := bne_iff_ne.mpr c39
            replace H := Option.bind_eq_some_iff.mp H
            obtain ⟨t508, A420, H⟩ := H
            replace H : (corebankref34_Check.j3 kj19 (t508 != (a0_2 == 1)) a0_0 a0_1 a0_2 a0_3 a0_4 a0_5 a0_6 a0_7 a0_8 a0_9 a0_10 a0_11 a0_12 a0_13 a0_14 a0_15 a0_16 a0_17 a0_18 a0_19 a0_20 a0_21 a0_22 l0_23 l0_24) = some r := H
            have A42 := Aside0.mk A420
            clear A420
            have H' := Aside0.mk H
            clear H
            try go_wp2
            have n0_ := Aside0.mk (blk_drew BK500.out)
            have n1_ := Aside0.mk (below_drew1 HB.out)
            clear BK500
            clear HB
            have BK500 := n0_
            have HB := n1_
            clear n0_ n1_
            refine start_ (n := 25) (S := cS25_ gb500 (.int .i64 a0_0) (.int .i64 a0_1) (.int .i64 a0_2) (.int .i64 a0_3) (.int .i64 a0_4) (.int .i64 a0_5) (.int .i64 a0_6) (.int .i64 a0_7) (.int .i64 a0_8) (.int .i64 a0_9) (.int .i64 a0_10) (.int .i64 a0_11) (.int .i64 a0_12) (.int .i64 a0_13) (.int .i64 a0_14) (.int .i64 a0_15) (.int .i64 a0_16) (.int .i64 a0_17) (.int .i64 a0_18) (.int .i64 a0_19) (.int .i64 a0_20) (.string a0_21) (.string a0_22) (.slice A0_23 l0_23.length c0_23) (.slice A0_24 l0_24.length c0_24)) (ds := []) (nb_ 25 0) (by kernel_rfl) rfl rfl (cc25_ BK500.out) (fun hHeld => ?_); refine with_tabW corebankref34_Check.tab10 corebankref34_Check.bits10 (fun HT_ HW_ => ?_)
            generalize wc.drew = w43 at BK500 HB hHeld ⊢
            refine pz_ 0 62 (nb_ 25 1) HT_.out ?_
            refine take_ (i := 1) (N := some 63) (v := ?_) (a' := ?_) (nb_ 25 3) rfl rfl (take_ofW HT_.out HW_.out (by kernel_rfl)) (fun _ _ _ h => h) (Or.inl ⟨by rfl, ?_⟩) hHeld ?_ ?_
            rotate_left
            ·rintro w' hs_
             first
             | (refine Eq.trans (ldx_ (by rfl) (by rfl) (ldS_ hs_)) ?_; with_reducible rfl)
             | (obtain ⟨s0, s1, s2, s3, s4, s5, s6, s7, s8, s9, s10, s11, s12, s13, s14, s15, s16, s17, s18, s19, s20, s21, s22, s23, s24⟩ := hs_; go_simp; with_reducible rfl)
            rotate_left
            ·simp only [Act.put, List.setIfInBounds_toArray, List.set_cons_zero, List.set_cons_succ, i64_w, i32_w]
             rfl
            refine pz_ 2 64 (nb_ 25 7) HT_.out ?_
            refine pz_ 3 65 (nb_ 25 15) HT_.out ?_
            refine pz_ 4 66 (nb_ 25 31) HT_.out ?_
            refine pz_ 7 69 (nb_ 25 159) HT_.out ?_
            refine pz_ 8 70 (nb_ 25 415) HT_.out ?_
            refine take_ (i := 5) (N := some 67) (v := ?_) (a' := ?_) (nb_ 25 447) rfl rfl (take_ofW HT_.out HW_.out (by kernel_rfl)) (fun _ _ _ h => h) (Or.inl ⟨by rfl, ?_⟩) hHeld ?_ ?_
            rotate_left
            ·rintro w' hs_
             first
             | (refine Eq.trans (ldx_ (by rfl) (by rfl) (ldS_ hs_)) ?_; with_reducible rfl)
             | (obtain ⟨s0, s1, s2, s3, s4, s5, s6, s7, s8, s9, s10, s11, s12, s13, s14, s15, s16, s17, s18, s19, s20, s21, s22, s23, s24⟩ := hs_; go_simp; with_reducible rfl)
            rotate_left
            ·simp only [Act.put, List.setIfInBounds_toArray, List.set_cons_zero, List.set_cons_succ, i64_w, i32_w]
             rfl
            refine take_ (i := 9) (N := some 71) (v := ?_) (a' := ?_) (nb_ 25 959) rfl rfl (take_ofW HT_.out HW_.out (by kernel_rfl)) (fun _ _ _ h => h) (Or.inl ⟨by rfl, ?_⟩) hHeld ?_ ?_
            rotate_left
            ·rintro w' hs_
             first
             | (refine Eq.trans (ldx_ (by rfl) (by rfl) (ldS_ hs_)) ?_; with_reducible rfl)
             | (obtain ⟨s0, s1, s2, s3, s4, s5, s6, s7, s8, s9, s10, s11, s12, s13, s14, s15, s16, s17, s18, s19, s20, s21, s22, s23, s24⟩ := hs_; go_simp; with_reducible rfl)
            rotate_left
            ·simp only [Act.put, List.setIfInBounds_toArray, List.set_cons_zero, List.set_cons_succ, i64_w, i32_w]
             rfl
            refine on_ 6 68 (nb_ 25 1023) HT_.out (fun K hK => ?_)
            refine goes_ Tryd.func38 (by kernel_rfl) rfl #[.agg #[.int .i64 a0_0, .int .i64 a0_1, .int .i64 a0_2, .int .i64 a0_3, .int .i64 a0_4, .int .i64 a0_5, .int .i64 a0_6, .int .i64 a0_7, .int .i64 a0_8, .int .i64 a0_9, .int .i64 a0_10, .int .i64 a0_11, .int .i64 a0_12, .int .i64 a0_13, .int .i64 a0_14, .int .i64 a0_15, .int .i64 a0_16, .int .i64 a0_17, .int .i64 a0_18, .int .i64 a0_19, .int .i64 a0_20, .string a0_21, .string a0_22, .slice A0_23 l0_23.length c0_23, .slice A0_24 l0_24.length c0_24], .int .i64 9223372036854775807] (by rfl) rfl rfl ql_ ?_
            with_reducible refine (corebankref34_Principal.calls kj19 a0_0 a0_1 a0_2 a0_3 a0_4 a0_5 a0_6 a0_7 a0_8 a0_9 a0_10 a0_11 a0_12 a0_13 a0_14 a0_15 a0_16 a0_17 a0_18 a0_19 a0_20 a0_21 a0_22 _ _ l0_23 _ _ l0_24 9223372036854775807 t507 _ ?side1 ?side2 ?side3 ?side4 A37.out).mono ?_
            (case side1 => repeat (first | exact (Kd.C_below HR0_23.out HB.out) | (with_reducible refine Kd.C_alloc ?_ _) | (with_reducible refine Kd.C_drewN ?_ _) | (with_reducible refine Kd.C_drew ?_)))
            (case side2 => exact HC0_23.out)
            (case side3 => repeat (first | exact (Kd.C_below HR0_24.out HB.out) | (with_reducible refine Kd.C_alloc ?_ _) | (with_reducible refine Kd.C_drewN ?_ _) | (with_reducible refine Kd.C_drew ?_)))
            (case side4 => exact HC0_24.out)
            rintro e w44 ⟨rfl, hb⟩
            refine ⟨_, rfl, ?_⟩
            have n0_ := Aside0.mk (blk_below (qk_ BK500.out) hb)
            have n1_ := Aside0.mk (below_step (qb1_ GE500.out HB.out) hb)
            clear BK500
            clear HB
            have BK500 := n0_
            have HB := n1_
            clear n0_ n1_
            (try clear hb)
            (try clear hb2)
            (try clear hk)
            (try clear hi)
            refine hK.out _ _ (cc25_ BK500.out) (fun hHeld => ?_)
            clear hK K
            refine no_ ?_
            refine pz_ 10 72 (nb_ 25 2047) HT_.out ?_
            refine pz_ 11 73 (nb_ 25 4095) HT_.out ?_
            refine pz_ 12 74 (nb_ 25 8191) HT_.out ?_
            refine pz_ 13 75 (nb_ 25 16383) HT_.out ?_
            refine take_ (i := 14) (N := some 76) (v := ?_) (a' := ?_) (nb_ 25 32767) rfl rfl (take_ofW HT_.out HW_.out (by kernel_rfl)) (fun _ _ _ h => h) (Or.inl ⟨by rfl, ?_⟩) hHeld ?_ ?_
            rotate_left
            ·rintro w' hs_
             first
             | (refine Eq.trans (ldx_ (by rfl) (by rfl) (ldS_ hs_)) ?_; with_reducible rfl)
             | (obtain ⟨s0, s1, s2, s3, s4, s5, s6, s7, s8, s9, s10, s11, s12, s13, s14, s15, s16, s17, s18, s19, s20, s21, s22, s23, s24⟩ := hs_; go_simp; with_reducible rfl)
            rotate_left
            ·simp only [Act.put, List.setIfInBounds_toArray, List.set_cons_zero, List.set_cons_succ, i64_w, i32_w]
             rfl
            refine pz_ 15 77 (nb_ 25 65535) HT_.out ?_
            refine pz_ 16 78 (nb_ 25 131071) HT_.out ?_
            refine pz_ 19 81 (nb_ 25 655359) HT_.out ?_
            refine take_ (i := 17) (N := some 79) (v := ?_) (a' := ?_) (nb_ 25 786431) rfl rfl (take_ofW HT_.out HW_.out (by kernel_rfl)) (fun _ _ _ h => h) (Or.inl ⟨by rfl, ?_⟩) hHeld ?_ ?_
            rotate_left
            ·rintro w' hs_
             first
             | (refine Eq.trans (ldx_ (by rfl) (by rfl) (ldS_ hs_)) ?_; with_reducible rfl)
             | (obtain ⟨s0, s1, s2, s3, s4, s5, s6, s7, s8, s9, s10, s11, s12, s13, s14, s15, s16, s17, s18, s19, s20, s21, s22, s23, s24⟩ := hs_; go_simp; with_reducible rfl)
            rotate_left
            ·simp only [Act.put, List.setIfInBounds_toArray, List.set_cons_zero, List.set_cons_succ, i64_w, i32_w]
             rfl
            refine take_ (i := 20) (N := some 82) (v := ?_) (a' := ?_) (nb_ 25 1835007) rfl rfl (take_ofW HT_.out HW_.out (by kernel_rfl)) (fun _ _ _ h => h) (Or.inl ⟨by rfl, ?_⟩) hHeld ?_ ?_
            rotate_left
            ·rintro w' hs_
             first
             | (refine Eq.trans (ldx_ (by rfl) (by rfl) (ldS_ hs_)) ?_; with_reducible rfl)
             | (obtain ⟨s0, s1, s2, s3, s4, s5, s6, s7, s8, s9, s10, s11, s12, s13, s14, s15, s16, s17, s18, s19, s20, s21, s22, s23, s24⟩ := hs_; go_simp; with_reducible rfl)
            rotate_left
            ·simp only [Act.put, List.setIfInBounds_toArray, List.set_cons_zero, List.set_cons_succ, i64_w, i32_w]
             rfl
            refine pz_ 21 83 (nb_ 25 3932159) HT_.out ?_
            refine on_ 18 80 (nb_ 25 4194303) HT_.out (fun K hK => ?_)
            refine goes_ Tryd.func40 (by kernel_rfl) rfl #[.agg #[.int .i64 a0_0, .int .i64 a0_1, .int .i64 a0_2, .int .i64 a0_3, .int .i64 a0_4, .int .i64 a0_5, .int .i64 a0_6, .int .i64 a0_7, .int .i64 a0_8, .int .i64 a0_9, .int .i64 a0_10, .int .i64 a0_11, .int .i64 a0_12, .int .i64 a0_13, .int .i64 a0_14, .int .i64 a0_15, .int .i64 a0_16, .int .i64 a0_17, .int .i64 a0_18, .int .i64 a0_19, .int .i64 a0_20, .string a0_21, .string a0_22, .slice A0_23 l0_23.length c0_23, .slice A0_24 l0_24.length c0_24]] (by rfl) rfl rfl ql_ ?_
            with_reducible refine (corebankref34_Left.calls kj19 a0_0 a0_1 a0_2 a0_3 a0_4 a0_5 a0_6 a0_7 a0_8 a0_9 a0_10 a0_11 a0_12 a0_13 a0_14 a0_15 a0_16 a0_17 a0_18 a0_19 a0_20 a0_21 a0_22 _ _ l0_23 _ _ l0_24 t508 _ ?side1 ?side2 ?side3 ?side4 A42.out).mono ?_
            (case side1 => repeat (first | exact (Kd.C_below HR0_23.out HB.out) | (with_reducible refine Kd.C_alloc ?_ _) | (with_reducible refine Kd.C_drewN ?_ _) | (with_reducible refine Kd.C_drew ?_)))
            (case side2 => exact HC0_23.out)
            (case side3 => repeat (first | exact (Kd.C_below HR0_24.out HB.out) | (with_reducible refine Kd.C_alloc ?_ _) | (with_reducible refine Kd.C_drewN ?_ _) | (with_reducible refine Kd.C_drew ?_)))
            (case side4 => exact HC0_24.out)
            rintro e w45 ⟨rfl, hb⟩
            refine ⟨_, rfl, ?_⟩
            have n0_ := Aside0.mk (blk_below (qk_ BK500.out) hb)
            have n1_ := Aside0.mk (below_step (qb1_ GE500.out HB.out) hb)
            clear BK500
            clear HB
            have BK500 := n0_
            have HB := n1_
            clear n0_ n1_
            (try clear hb)
            (try clear hb2)
            (try clear hk)
            (try clear hi)
            refine hK.out _ _ (cc25_ BK500.out) (fun hHeld => ?_)
            clear hK K
            refine no_ ?_
            refine pz_ 22 84 (nb_ 25 8388607) HT_.out ?_
            refine pz_ 23 85 (nb_ 25 16777215) HT_.out ?_
            refine pz_ 24 86 (nb_ 25 33554431) HT_.out ?_
            refine done_ (done_of HT_.out (by kernel_rfl)) ?_
            try go_wp2
            go_meet
            case rel => exact ⟨_, ((t508 != (a0_2 == 1))), qs_, H', ⟨by have := HK1.out; have := HJ19.out; first | omega | exact Nat.le_refl _⟩, ⟨qk_ BK500.out⟩, ⟨qb1_ GE500.out HB.out⟩⟩
          ·rw [if_neg c38] at H
           have c38b0 : (t507 == a0_12) = false := beq_eq_false_iff_ne.mpr c38
           have c38b1 : (t507 != a0_12) = true := bne_iff_ne.mpr c38
           have H' := Aside0.mk H
           clear H
           try go_wp2
           have n0_ := Aside0.mk (blk_drew BK500.out)
           have n1_ := Aside0.mk (below_drew1 HB.out)
           clear BK500
           clear HB
           have BK500 := n0_
           have HB := n1_
           clear n0_ n1_
           refine start_ (n := 25) (S := cS25_ gb500 (.int .i64 a0_0) (.int .i64 a0_1) (.int .i64 a0_2) (.int .i64 a0_3) (.int .i64 a0_4) (.int .i64 a0_5) (.int .i64 a0_6) (.int .i64 a0_7) (.int .i64 a0_8) (.int .i64 a0_9) (.int .i64 a0_10) (.int .i64 a0_11) (.int .i64 a0_12) (.int .i64 a0_13) (.int .i64 a0_14) (.int .i64 a0_15) (.int .i64 a0_16) (.int .i64 a0_17) (.int .i64 a0_18) (.int .i64 a0_19) (.int .i64 a0_20) (.string a0_21) (.string a0_22) (.slice A0_23 l0_23.length c0_23) (.slice A0_24 l0_24.length c0_24)) (ds := []) (nb_ 25 0) (by kernel_rfl) rfl rfl (cc25_ BK500.out) (fun hHeld => ?_); refine with_tabW corebankref34_Check.tab10 corebankref34_Check.bits10 (fun HT_ HW_ => ?_)
           generalize wc.drew = w46 at BK500 HB hHeld ⊢
           refine pz_ 0 62 (nb_ 25 1) HT_.out ?_
           refine take_ (i := 1) (N := some 63) (v := ?_) (a' := ?_) (nb_ 25 3) rfl rfl (take_ofW HT_.out HW_.out (by kernel_rfl)) (fun _ _ _ h => h) (Or.inl ⟨by rfl, ?_⟩) hHeld ?_ ?_
           rotate_left
           ·rintro w' hs_
            first
            | (refine Eq.trans (ldx_ (by rfl) (by rfl) (ldS_ hs_)) ?_; with_reducible rfl)
            | (obtain ⟨s0, s1, s2, s3, s4, s5, s6, s7, s8, s9, s10, s11, s12, s13, s14, s15, s16, s17, s18, s19, s20, s21, s22, s23, s24⟩ := hs_; go_simp; with_reducible rfl)
           rotate_left
           ·simp only [Act.put, List.setIfInBounds_toArray, List.set_cons_zero, List.set_cons_succ, i64_w, i32_w]
            rfl
           refine pz_ 2 64 (nb_ 25 7) HT_.out ?_
           refine pz_ 3 65 (nb_ 25 15) HT_.out ?_
           refine pz_ 4 66 (nb_ 25 31) HT_.out ?_
           refine pz_ 7 69 (nb_ 25 159) HT_.out ?_
           refine pz_ 8 70 (nb_ 25 415) HT_.out ?_
           refine take_ (i := 5) (N := some 67) (v := ?_) (a' := ?_) (nb_ 25 447) rfl rfl (take_ofW HT_.out HW_.out (by kernel_rfl)) (fun _ _ _ h => h) (Or.inl ⟨by rfl, ?_⟩) hHeld ?_ ?_
           rotate_left
           ·rintro w' hs_
            first
            | (refine Eq.trans (ldx_ (by rfl) (by rfl) (ldS_ hs_)) ?_; with_reducible rfl)
            | (obtain ⟨s0, s1, s2, s3, s4, s5, s6, s7, s8, s9, s10, s11, s12, s13, s14, s15, s16, s17, s18, s19, s20, s21, s22, s23, s24⟩ := hs_; go_simp; with_reducible rfl)
           rotate_left
           ·simp only [Act.put, List.setIfInBounds_toArray, List.set_cons_zero, List.set_cons_succ, i64_w, i32_w]
            rfl
           refine take_ (i := 9) (N := some 71) (v := ?_) (a' := ?_) (nb_ 25 959) rfl rfl (take_ofW HT_.out HW_.out (by kernel_rfl)) (fun _ _ _ h => h) (Or.inl ⟨by rfl, ?_⟩) hHeld ?_ ?_
           rotate_left
           ·rintro w' hs_
            first
            | (refine Eq.trans (ldx_ (by rfl) (by rfl) (ldS_ hs_)) ?_; with_reducible rfl)
            | (obtain ⟨s0, s1, s2, s3, s4, s5, s6, s7, s8, s9, s10, s11, s12, s13, s14, s15, s16, s17, s18, s19, s20, s21, s22, s23, s24⟩ := hs_; go_simp; with_reducible rfl)
           rotate_left
           ·simp only [Act.put, List.setIfInBounds_toArray, List.set_cons_zero, List.set_cons_succ, i64_w, i32_w]
            rfl
           refine on_ 6 68 (nb_ 25 1023) HT_.out (fun K hK => ?_)
           refine goes_ Tryd.func38 (by kernel_rfl) rfl #[.agg #[.int .i64 a0_0, .int .i64 a0_1, .int .i64 a0_2, .int .i64 a0_3, .int .i64 a0_4, .int .i64 a0_5, .int .i64 a0_6, .int .i64 a0_7, .int .i64 a0_8, .int .i64 a0_9, .int .i64 a0_10, .int .i64 a0_11, .int .i64 a0_12, .int .i64 a0_13, .int .i64 a0_14, .int .i64 a0_15, .int .i64 a0_16, .int .i64 a0_17, .int .i64 a0_18, .int .i64 a0_19, .int .i64 a0_20, .string a0_21, .string a0_22, .slice A0_23 l0_23.length c0_23, .slice A0_24 l0_24.length c0_24], .int .i64 9223372036854775807] (by rfl) rfl rfl ql_ ?_
           with_reducible refine (corebankref34_Principal.calls kj19 a0_0 a0_1 a0_2 a0_3 a0_4 a0_5 a0_6 a0_7 a0_8 a0_9 a0_10 a0_11 a0_12 a0_13 a0_14 a0_15 a0_16 a0_17 a0_18 a0_19 a0_20 a0_21 a0_22 _ _ l0_23 _ _ l0_24 9223372036854775807 t507 _ ?side1 ?side2 ?side3 ?side4 A37.out).mono ?_
           (case side1 => repeat (first | exact (Kd.C_below HR0_23.out HB.out) | (with_reducible refine Kd.C_alloc ?_ _) | (with_reducible refine Kd.C_drewN ?_ _) | (with_reducible refine Kd.C_drew ?_)))
           (case side2 => exact HC0_23.out)
           (case side3 => repeat (first | exact (Kd.C_below HR0_24.out HB.out) | (with_reducible refine Kd.C_alloc ?_ _) | (with_reducible refine Kd.C_drewN ?_ _) | (with_reducible refine Kd.C_drew ?_)))
           (case side4 => exact HC0_24.out)
           rintro e w47 ⟨rfl, hb⟩
           refine ⟨_, rfl, ?_⟩
           have n0_ := Aside0.mk (blk_below (qk_ BK500.out) hb)
           have n1_ := Aside0.mk (below_step (qb1_ GE500.out HB.out) hb)
           clear BK500
           clear HB
           have BK500 := n0_
           have HB := n1_
           clear n0_ n1_
           (try clear hb)
           (try clear hb2)
           (try clear hk)
           (try clear hi)
           refine hK.out _ _ (cc25_ BK500.out) (fun hHeld => ?_)
           clear hK K
           refine no_ ?_
           refine pz_ 10 72 (nb_ 25 2047) HT_.out ?_
           refine pz_ 11 73 (nb_ 25 4095) HT_.out ?_
           refine pz_ 12 74 (nb_ 25 8191) HT_.out ?_
           refine pu_ 13 75 (nb_ 25 16383) HT_.out ?_
           refine pu_ 14 76 (nb_ 25 32767) HT_.out ?_
           refine pu_ 15 77 (nb_ 25 65535) HT_.out ?_
           refine pu_ 16 78 (nb_ 25 131071) HT_.out ?_
           refine pu_ 17 79 (nb_ 25 262143) HT_.out ?_
           refine pu_ 18 80 (nb_ 25 524287) HT_.out ?_
           refine pu_ 19 81 (nb_ 25 1048575) HT_.out ?_
           refine pu_ 20 82 (nb_ 25 2097151) HT_.out ?_
           refine pu_ 21 83 (nb_ 25 4194303) HT_.out ?_
           refine pu_ 22 84 (nb_ 25 8388607) HT_.out ?_
           refine pu_ 23 85 (nb_ 25 16777215) HT_.out ?_
           refine pz_ 24 86 (nb_ 25 33554431) HT_.out ?_
           refine done_ (done_of HT_.out (by kernel_rfl)) ?_
           try go_wp2
           go_meet
           case rel => exact ⟨_, (true), qs_, H', ⟨by have := HK1.out; have := HJ19.out; first | omega | exact Nat.le_refl _⟩, ⟨qk_ BK500.out⟩, ⟨qb1_ GE500.out HB.out⟩⟩
         ·rw [if_neg c36] at H
          have c36b0 : ((l0_24.length : Int) == 0) = false := beq_eq_false_iff_ne.mpr c36
          have c36b1 : ((l0_24.length : Int) != 0) = true := bne_iff_ne.mpr c36
          have c36b2 : ¬ (l0_24 = []) := fun h_ => c36 (by rw [h_]; rfl)
          (first | rw [c36b0] | (simp only [i64_w, i32_w]; rw [c36b0]) | skip)
          by_cases c48 : a0_2 = 3
          ·rw [if_pos c48] at H
           have c48b0 : (a0_2 == 3) = true := beq_iff_eq.mpr c48
           have c48b1 : (a0_2 != 3) = false := bne_eq_false_iff_eq.mpr c48
           clear c48
           have H' := Aside0.mk H
           clear H
           try go_wp2
           have n0_ := Aside0.mk (blk_drew BK500.out)
           have n1_ := Aside0.mk (below_drew1 HB.out)
           clear BK500
           clear HB
           have BK500 := n0_
           have HB := n1_
           clear n0_ n1_
           refine start_ (n := 25) (S := cS25_ gb500 (.int .i64 a0_0) (.int .i64 a0_1) (.int .i64 a0_2) (.int .i64 a0_3) (.int .i64 a0_4) (.int .i64 a0_5) (.int .i64 a0_6) (.int .i64 a0_7) (.int .i64 a0_8) (.int .i64 a0_9) (.int .i64 a0_10) (.int .i64 a0_11) (.int .i64 a0_12) (.int .i64 a0_13) (.int .i64 a0_14) (.int .i64 a0_15) (.int .i64 a0_16) (.int .i64 a0_17) (.int .i64 a0_18) (.int .i64 a0_19) (.int .i64 a0_20) (.string a0_21) (.string a0_22) (.slice A0_23 l0_23.length c0_23) (.slice A0_24 l0_24.length c0_24)) (ds := []) (nb_ 25 0) (by kernel_rfl) rfl rfl (cc25_ BK500.out) (fun hHeld => ?_); refine with_tabW corebankref34_Check.tab10 corebankref34_Check.bits10 (fun HT_ HW_ => ?_)
           generalize wc.drew = w49 at BK500 HB hHeld ⊢
           refine pz_ 0 62 (nb_ 25 1) HT_.out ?_
           refine take_ (i := 1) (N := some 63) (v := ?_) (a' := ?_) (nb_ 25 3) rfl rfl (take_ofW HT_.out HW_.out (by kernel_rfl)) (fun _ _ _ h => h) (Or.inl ⟨by rfl, ?_⟩) hHeld ?_ ?_
           rotate_left
           ·rintro w' hs_
            first
            | (refine Eq.trans (ldx_ (by rfl) (by rfl) (ldS_ hs_)) ?_; with_reducible rfl)
            | (obtain ⟨s0, s1, s2, s3, s4, s5, s6, s7, s8, s9, s10, s11, s12, s13, s14, s15, s16, s17, s18, s19, s20, s21, s22, s23, s24⟩ := hs_; go_simp; with_reducible rfl)
           rotate_left
           ·simp only [Act.put, List.setIfInBounds_toArray, List.set_cons_zero, List.set_cons_succ, i64_w, i32_w]
            rfl
           refine pz_ 2 64 (nb_ 25 7) HT_.out ?_
           refine pz_ 3 65 (nb_ 25 15) HT_.out ?_
           refine pz_ 4 66 (nb_ 25 31) HT_.out ?_
           refine pu_ 5 67 (nb_ 25 63) HT_.out ?_
           refine pu_ 6 68 (nb_ 25 127) HT_.out ?_
           refine pu_ 7 69 (nb_ 25 255) HT_.out ?_
           refine pu_ 8 70 (nb_ 25 511) HT_.out ?_
           refine pu_ 9 71 (nb_ 25 1023) HT_.out ?_
           refine pu_ 10 72 (nb_ 25 2047) HT_.out ?_
           refine pz_ 11 73 (nb_ 25 4095) HT_.out ?_
           refine pz_ 12 74 (nb_ 25 8191) HT_.out ?_
           refine pz_ 13 75 (nb_ 25 16383) HT_.out ?_
           refine take_ (i := 14) (N := some 76) (v := ?_) (a' := ?_) (nb_ 25 32767) rfl rfl (take_ofW HT_.out HW_.out (by kernel_rfl)) (fun _ _ _ h => h) (Or.inl ⟨by rfl, ?_⟩) hHeld ?_ ?_
           rotate_left
           ·rintro w' hs_
            first
            | (refine Eq.trans (ldx_ (by rfl) (by rfl) (ldS_ hs_)) ?_; with_reducible rfl)
            | (obtain ⟨s0, s1, s2, s3, s4, s5, s6, s7, s8, s9, s10, s11, s12, s13, s14, s15, s16, s17, s18, s19, s20, s21, s22, s23, s24⟩ := hs_; go_simp; with_reducible rfl)
           rotate_left
           ·simp only [Act.put, List.setIfInBounds_toArray, List.set_cons_zero, List.set_cons_succ, i64_w, i32_w]
            rfl
           refine pz_ 15 77 (nb_ 25 65535) HT_.out ?_
           refine pz_ 16 78 (nb_ 25 131071) HT_.out ?_
           refine pu_ 17 79 (nb_ 25 262143) HT_.out ?_
           refine pu_ 18 80 (nb_ 25 524287) HT_.out ?_
           refine pu_ 19 81 (nb_ 25 1048575) HT_.out ?_
           refine pu_ 20 82 (nb_ 25 2097151) HT_.out ?_
           refine pu_ 21 83 (nb_ 25 4194303) HT_.out ?_
           refine pu_ 22 84 (nb_ 25 8388607) HT_.out ?_
           refine pz_ 23 85 (nb_ 25 16777215) HT_.out ?_
           refine pz_ 24 86 (nb_ 25 33554431) HT_.out ?_
           refine done_ (done_of HT_.out (by kernel_rfl)) ?_
           try go_wp2
           go_meet
           case rel => exact ⟨_, (false), qs_, H', ⟨by have := HK1.out; have := HJ19.out; first | omega | exact Nat.le_refl _⟩, ⟨qk_ BK500.out⟩, ⟨qb1_ GE500.out HB.out⟩⟩
          ·rw [if_neg c48] at H
           have c48b0 : (a0_2 == 3) = false := beq_eq_false_iff_ne.mpr c48
           have c48b1 : (a0_2 != 3) = true := bne_iff_ne.mpr c48
           replace H := Option.bind_eq_some_iff.mp H
           obtain ⟨t509, A500, H⟩ := H
           replace H : (corebankref34_Check.j3 kj19 (t509 != (a0_2 == 1)) a0_0 a0_1 a0_2 a0_3 a0_4 a0_5 a0_6 a0_7 a0_8 a0_9 a0_10 a0_11 a0_12 a0_13 a0_14 a0_15 a0_16 a0_17 a0_18 a0_19 a0_20 a0_21 a0_22 l0_23 l0_24) = some r := H
           have A50 := Aside0.mk A500
           clear A500
           have H' := Aside0.mk H
           clear H
           try go_wp2
           have n0_ := Aside0.mk (blk_drew BK500.out)
           have n1_ := Aside0.mk (below_drew1 HB.out)
           clear BK500
           clear HB
           have BK500 := n0_
           have HB := n1_
           clear n0_ n1_
           refine start_ (n := 25) (S := cS25_ gb500 (.int .i64 a0_0) (.int .i64 a0_1) (.int .i64 a0_2) (.int .i64 a0_3) (.int .i64 a0_4) (.int .i64 a0_5) (.int .i64 a0_6) (.int .i64 a0_7) (.int .i64 a0_8) (.int .i64 a0_9) (.int .i64 a0_10) (.int .i64 a0_11) (.int .i64 a0_12) (.int .i64 a0_13) (.int .i64 a0_14) (.int .i64 a0_15) (.int .i64 a0_16) (.int .i64 a0_17) (.int .i64 a0_18) (.int .i64 a0_19) (.int .i64 a0_20) (.string a0_21) (.string a0_22) (.slice A0_23 l0_23.length c0_23) (.slice A0_24 l0_24.length c0_24)) (ds := []) (nb_ 25 0) (by kernel_rfl) rfl rfl (cc25_ BK500.out) (fun hHeld => ?_); refine with_tabW corebankref34_Check.tab10 corebankref34_Check.bits10 (fun HT_ HW_ => ?_)
           generalize wc.drew = w51 at BK500 HB hHeld ⊢
           refine pz_ 0 62 (nb_ 25 1) HT_.out ?_
           refine take_ (i := 1) (N := some 63) (v := ?_) (a' := ?_) (nb_ 25 3) rfl rfl (take_ofW HT_.out HW_.out (by kernel_rfl)) (fun _ _ _ h => h) (Or.inl ⟨by rfl, ?_⟩) hHeld ?_ ?_
           rotate_left
           ·rintro w' hs_
            first
            | (refine Eq.trans (ldx_ (by rfl) (by rfl) (ldS_ hs_)) ?_; with_reducible rfl)
            | (obtain ⟨s0, s1, s2, s3, s4, s5, s6, s7, s8, s9, s10, s11, s12, s13, s14, s15, s16, s17, s18, s19, s20, s21, s22, s23, s24⟩ := hs_; go_simp; with_reducible rfl)
           rotate_left
           ·simp only [Act.put, List.setIfInBounds_toArray, List.set_cons_zero, List.set_cons_succ, i64_w, i32_w]
            rfl
           refine pz_ 2 64 (nb_ 25 7) HT_.out ?_
           refine pz_ 3 65 (nb_ 25 15) HT_.out ?_
           refine pz_ 4 66 (nb_ 25 31) HT_.out ?_
           refine pu_ 5 67 (nb_ 25 63) HT_.out ?_
           refine pu_ 6 68 (nb_ 25 127) HT_.out ?_
           refine pu_ 7 69 (nb_ 25 255) HT_.out ?_
           refine pu_ 8 70 (nb_ 25 511) HT_.out ?_
           refine pu_ 9 71 (nb_ 25 1023) HT_.out ?_
           refine pu_ 10 72 (nb_ 25 2047) HT_.out ?_
           refine pz_ 11 73 (nb_ 25 4095) HT_.out ?_
           refine pz_ 12 74 (nb_ 25 8191) HT_.out ?_
           refine pz_ 13 75 (nb_ 25 16383) HT_.out ?_
           refine take_ (i := 14) (N := some 76) (v := ?_) (a' := ?_) (nb_ 25 32767) rfl rfl (take_ofW HT_.out HW_.out (by kernel_rfl)) (fun _ _ _ h => h) (Or.inl ⟨by rfl, ?_⟩) hHeld ?_ ?_
           rotate_left
           ·rintro w' hs_
            first
            | (refine Eq.trans (ldx_ (by rfl) (by rfl) (ldS_ hs_)) ?_; with_reducible rfl)
            | (obtain ⟨s0, s1, s2, s3, s4, s5, s6, s7, s8, s9, s10, s11, s12, s13, s14, s15, s16, s17, s18, s19, s20, s21, s22, s23, s24⟩ := hs_; go_simp; with_reducible rfl)
           rotate_left
           ·simp only [Act.put, List.setIfInBounds_toArray, List.set_cons_zero, List.set_cons_succ, i64_w, i32_w]
            rfl
           refine pz_ 15 77 (nb_ 25 65535) HT_.out ?_
           refine pz_ 16 78 (nb_ 25 131071) HT_.out ?_
           refine pz_ 19 81 (nb_ 25 655359) HT_.out ?_
           refine take_ (i := 17) (N := some 79) (v := ?_) (a' := ?_) (nb_ 25 786431) rfl rfl (take_ofW HT_.out HW_.out (by kernel_rfl)) (fun _ _ _ h => h) (Or.inl ⟨by rfl, ?_⟩) hHeld ?_ ?_
           rotate_left
           ·rintro w' hs_
            first
            | (refine Eq.trans (ldx_ (by rfl) (by rfl) (ldS_ hs_)) ?_; with_reducible rfl)
            | (obtain ⟨s0, s1, s2, s3, s4, s5, s6, s7, s8, s9, s10, s11, s12, s13, s14, s15, s16, s17, s18, s19, s20, s21, s22, s23, s24⟩ := hs_; go_simp; with_reducible rfl)
           rotate_left
           ·simp only [Act.put, List.setIfInBounds_toArray, List.set_cons_zero, List.set_cons_succ, i64_w, i32_w]
            rfl
           refine take_ (i := 20) (N := some 82) (v := ?_) (a' := ?_) (nb_ 25 1835007) rfl rfl (take_ofW HT_.out HW_.out (by kernel_rfl)) (fun _ _ _ h => h) (Or.inl ⟨by rfl, ?_⟩) hHeld ?_ ?_
           rotate_left
           ·rintro w' hs_
            first
            | (refine Eq.trans (ldx_ (by rfl) (by rfl) (ldS_ hs_)) ?_; with_reducible rfl)
            | (obtain ⟨s0, s1, s2, s3, s4, s5, s6, s7, s8, s9, s10, s11, s12, s13, s14, s15, s16, s17, s18, s19, s20, s21, s22, s23, s24⟩ := hs_; go_simp; with_reducible rfl)
           rotate_left
           ·simp only [Act.put, List.setIfInBounds_toArray, List.set_cons_zero, List.set_cons_succ, i64_w, i32_w]
            rfl
           refine pz_ 21 83 (nb_ 25 3932159) HT_.out ?_
           refine on_ 18 80 (nb_ 25 4194303) HT_.out (fun K hK => ?_)
           refine goes_ Tryd.func40 (by kernel_rfl) rfl #[.agg #[.int .i64 a0_0, .int .i64 a0_1, .int .i64 a0_2, .int .i64 a0_3, .int .i64 a0_4, .int .i64 a0_5, .int .i64 a0_6, .int .i64 a0_7, .int .i64 a0_8, .int .i64 a0_9, .int .i64 a0_10, .int .i64 a0_11, .int .i64 a0_12, .int .i64 a0_13, .int .i64 a0_14, .int .i64 a0_15, .int .i64 a0_16, .int .i64 a0_17, .int .i64 a0_18, .int .i64 a0_19, .int .i64 a0_20, .string a0_21, .string a0_22, .slice A0_23 l0_23.length c0_23, .slice A0_24 l0_24.length c0_24]] (by rfl) rfl rfl ql_ ?_
           with_reducible refine (corebankref34_Left.calls kj19 a0_0 a0_1 a0_2 a0_3 a0_4 a0_5 a0_6 a0_7 a0_8 a0_9 a0_10 a0_11 a0_12 a0_13 a0_14 a0_15 a0_16 a0_17 a0_18 a0_19 a0_20 a0_21 a0_22 _ _ l0_23 _ _ l0_24 t509 _ ?side1 ?side2 ?side3 ?side4 A50.out).mono ?_
           (case side1 => repeat (first | exact (Kd.C_below HR0_23.out HB.out) | (with_reducible refine Kd.C_alloc ?_ _) | (with_reducible refine Kd.C_drewN ?_ _) | (with_reducible refine Kd.C_drew ?_)))
           (case side2 => exact HC0_23.out)
           (case side3 => repeat (first | exact (Kd.C_below HR0_24.out HB.out) | (with_reducible refine Kd.C_alloc ?_ _) | (with_reducible refine Kd.C_drewN ?_ _) | (with_reducible refine Kd.C_drew ?_)))
           (case side4 => exact HC0_24.out)
           rintro e w52 ⟨rfl, hb⟩
           refine ⟨_, rfl, ?_⟩
           have n0_ := Aside0.mk (blk_below (qk_ BK500.out) hb)
           have n1_ := Aside0.mk (below_step (qb1_ GE500.out HB.out) hb)
           clear BK500
           clear HB
           have BK500 := n0_
           have HB := n1_
           clear n0_ n1_
           (try clear hb)
           (try clear hb2)
           (try clear hk)
           (try clear hi)
           refine hK.out _ _ (cc25_ BK500.out) (fun hHeld => ?_)
           clear hK K
           refine no_ ?_
           refine pz_ 22 84 (nb_ 25 8388607) HT_.out ?_
           refine pz_ 23 85 (nb_ 25 16777215) HT_.out ?_
           refine pz_ 24 86 (nb_ 25 33554431) HT_.out ?_
           refine done_ (done_of HT_.out (by kernel_rfl)) ?_
           try go_wp2
           go_meet
           case rel => exact ⟨_, ((t509 != (a0_2 == 1))), qs_, H', ⟨by have := HK1.out; have := HJ19.out; first | omega | exact Nat.le_refl _⟩, ⟨qk_ BK500.out⟩, ⟨qb1_ GE500.out HB.out⟩⟩
        case rest =>
         clear HC35
         try clear p2
         try clear c3
         try clear c4
         try clear c36
         try clear c36b0
         try clear c36b1
         try clear c36b2
         try clear c38
         try clear c38b0
         try clear c38b1
         try clear c40
         try clear c48
         try clear c48b0
         try clear c48b1
         obtain ⟨kq, x86_34, rfl, HA, HJ34, BK500, HB⟩ := hcut
         cases kq with
         | zero => exact absurd HA.out (by simp [corebankref34_Check.j3])
         | succ kj34 =>
          have H := HA.out
          clear HA
          simp only [corebankref34_Check.j3] at H
          by_cases c53 : x86_34 = true
          ·subst c53
           have H1 : (some 25) = some r := by rw [if_pos rfl] at H; exact H
           clear H
           have H := H1
           clear H1
           obtain rfl := Option.some.inj H
           go_wp2
           go_ret
           exact ⟨qe_, qb1_ GE500.out HB.out⟩
          ·replace c53 := Bool.eq_false_iff.mpr c53
           subst c53
           have H1 : (if a0_2 = 3 then (corebankref34_Check.j4 kj34 false) else (if a0_9 = 0 then (corebankref34_Check.j4 kj34 (a0_10 != 0)) else (corebankref34_Check.j4 kj34 true))) = some r := by rw [if_neg (show ¬ (false = true) by decide)] at H; exact H
           clear H
           have H := H1
           clear H1
           have HC54 := Aside0.mk H
           clear H
           go_upto_region 12 with (fail)
           go_cut [99] (fun v99 wc => ∃ (kq : Nat) (x99_53 : Bool), v99 = .bool x99_53 ∧ Aside0 (corebankref34_Check.j4 kq x99_53 = some r) ∧ Aside0 (kq ≤ kj34) ∧ Aside0 (wc.heap[gb500]? = some (.cells #[.int .i64 a0_0, .int .i64 a0_1, .int .i64 a0_2, .int .i64 a0_3, .int .i64 a0_4, .int .i64 a0_5, .int .i64 a0_6, .int .i64 a0_7, .int .i64 a0_8, .int .i64 a0_9, .int .i64 a0_10, .int .i64 a0_11, .int .i64 a0_12, .int .i64 a0_13, .int .i64 a0_14, .int .i64 a0_15, .int .i64 a0_16, .int .i64 a0_17, .int .i64 a0_18, .int .i64 a0_19, .int .i64 a0_20, .string a0_21, .string a0_22, (.slice A0_23 l0_23.length c0_23), (.slice A0_24 l0_24.length c0_24)] 27 (0, 0))) ∧ Aside0 (Below w.heap.size w wc))
           case first =>
            have H := HC54.out
            clear HC54
            by_cases c55 : a0_2 = 3
            ·rw [if_pos c55] at H
             have c55b0 : (a0_2 == 3) = true := beq_iff_eq.mpr c55
             have c55b1 : (a0_2 != 3) = false := bne_eq_false_iff_eq.mpr c55
             clear c55
             (first | rw [c55b0] | (simp only [i64_w, i32_w]; rw [c55b0]) | skip)
             have H' := Aside0.mk H
             clear H
             obtain ⟨Z56_0, Z56_1, Z56_2, Z56_3, Z56_4, Z56_5, Z56_6, Z56_7, Z56_8, Z56_9, Z56_10, Z56_11, Z56_12, Z56_13, Z56_14, Z56_15, Z56_16, Z56_17, Z56_18, Z56_19, Z56_20, Z56_21, Z56_22, Z56_23, Z56_24, Y56_0, Y56_1, Y56_2, Y56_3, Y56_4, Y56_5, Y56_6, Y56_7, Y56_8, Y56_9, Y56_10, Y56_11, Y56_12, Y56_13, Y56_14, Y56_15, Y56_16, Y56_17, Y56_18, Y56_19, Y56_20, Y56_21, Y56_22, Y56_23, Y56_24⟩ := cz25_ BK500.out
             go_wp2
             go_meet
             case rel => exact ⟨_, (false), qs_, H', ⟨by have := HK1.out; have := HJ19.out; have := HJ34.out; first | omega | exact Nat.le_refl _⟩, ⟨qk_ BK500.out⟩, ⟨qb1_ GE500.out HB.out⟩⟩
            ·rw [if_neg c55] at H
             have c55b0 : (a0_2 == 3) = false := beq_eq_false_iff_ne.mpr c55
             have c55b1 : (a0_2 != 3) = true := bne_iff_ne.mpr c55
             (first | rw [c55b0] | (simp only [i64_w, i32_w]; rw [c55b0]) | skip)
             by_cases c57 : a0_9 = 0
             ·rw [if_pos c57] at H
              have c57b0 : (a0_9 == 0) = true := beq_iff_eq.mpr c57
              have c57b1 : (a0_9 != 0) = false := bne_eq_false_iff_eq.mpr c57
              clear c57
              have H' := Aside0.mk H
              clear H
              obtain ⟨Z58_0, Z58_1, Z58_2, Z58_3, Z58_4, Z58_5, Z58_6, Z58_7, Z58_8, Z58_9, Z58_10, Z58_11, Z58_12, Z58_13, Z58_14, Z58_15, Z58_16, Z58_17, Z58_18, Z58_19, Z58_20, Z58_21, Z58_22, Z58_23, Z58_24, Y58_0, Y58_1, Y58_2, Y58_3, Y58_4, Y58_5, Y58_6, Y58_7, Y58_8, Y58_9, Y58_10, Y58_11, Y58_12, Y58_13, Y58_14, Y58_15, Y58_16, Y58_17, Y58_18, Y58_19, Y58_20, Y58_21, Y58_22, Y58_23, Y58_24⟩ := cz25_ BK500.out
              go_wp2
              go_meet
              case rel => exact ⟨_, ((a0_10 != 0)), qs_, H', ⟨by have := HK1.out; have := HJ19.out; have := HJ34.out; first | omega | exact Nat.le_refl _⟩, ⟨qk_ BK500.out⟩, ⟨qb1_ GE500.out HB.out⟩⟩
             ·rw [if_neg c57] at H
              have c57b0 : (a0_9 == 0) = false := beq_eq_false_iff_ne.mpr c57
              have c57b1 : (a0_9 != 0) = true := bne_iff_ne.mpr c57
              have H' := Aside0.mk H
              clear H
              obtain ⟨Z59_0, Z59_1, Z59_2, Z59_3, Z59_4, Z59_5, Z59_6, Z59_7, Z59_8, Z59_9, Z59_10, Z59_11, Z59_12, Z59_13, Z59_14, Z59_15, Z59_16, Z59_17, Z59_18, Z59_19, Z59_20, Z59_21, Z59_22, Z59_23, Z59_24, Y59_0, Y59_1, Y59_2, Y59_3, Y59_4, Y59_5, Y59_6, Y59_7, Y59_8, Y59_9, Y59_10, Y59_11, Y59_12, Y59_13, Y59_14, Y59_15, Y59_16, Y59_17, Y59_18, Y59_19, Y59_20, Y59_21, Y59_22, Y59_23, Y59_24⟩ := cz25_ BK500.out
              go_wp2
              go_meet
              case rel => exact ⟨_, (true), qs_, H', ⟨by have := HK1.out; have := HJ19.out; have := HJ34.out; first | omega | exact Nat.le_refl _⟩, ⟨qk_ BK500.out⟩, ⟨qb1_ GE500.out HB.out⟩⟩
           case rest =>
            clear HC54
            try clear p2
            try clear c3
            try clear c4
            try clear c5
            try clear c36
            try clear c36b0
            try clear c36b1
            try clear c36b2
            try clear c38
            try clear c38b0
            try clear c38b1
            try clear c40
            try clear c48
            try clear c48b0
            try clear c48b1
            try clear c53
            try clear c55
            try clear c55b0
            try clear c55b1
            try clear c57
            try clear c57b0
            try clear c57b1
            (try clear Z56_0 Z56_1 Z56_10 Z56_11 Z56_12 Z56_13 Z56_14 Z56_15 Z56_16 Z56_17 Z56_18 Z56_19 Z56_2 Z56_20 Z56_21 Z56_22 Z56_23 Z56_24 Z56_3 Z56_4 Z56_5 Z56_6 Z56_7 Z56_8 Z56_9 Y56_0 Y56_1 Y56_10 Y56_11 Y56_12 Y56_13 Y56_14 Y56_15 Y56_16 Y56_17 Y56_18 Y56_19 Y56_2 Y56_20 Y56_21 Y56_22 Y56_23 Y56_24 Y56_3 Y56_4 Y56_5 Y56_6 Y56_7 Y56_8 Y56_9)
            (try clear Z58_0 Z58_1 Z58_10 Z58_11 Z58_12 Z58_13 Z58_14 Z58_15 Z58_16 Z58_17 Z58_18 Z58_19 Z58_2 Z58_20 Z58_21 Z58_22 Z58_23 Z58_24 Z58_3 Z58_4 Z58_5 Z58_6 Z58_7 Z58_8 Z58_9 Y58_0 Y58_1 Y58_10 Y58_11 Y58_12 Y58_13 Y58_14 Y58_15 Y58_16 Y58_17 Y58_18 Y58_19 Y58_2 Y58_20 Y58_21 Y58_22 Y58_23 Y58_24 Y58_3 Y58_4 Y58_5 Y58_6 Y58_7 Y58_8 Y58_9)
            (try clear Z59_0 Z59_1 Z59_10 Z59_11 Z59_12 Z59_13 Z59_14 Z59_15 Z59_16 Z59_17 Z59_18 Z59_19 Z59_2 Z59_20 Z59_21 Z59_22 Z59_23 Z59_24 Z59_3 Z59_4 Z59_5 Z59_6 Z59_7 Z59_8 Z59_9 Y59_0 Y59_1 Y59_10 Y59_11 Y59_12 Y59_13 Y59_14 Y59_15 Y59_16 Y59_17 Y59_18 Y59_19 Y59_2 Y59_20 Y59_21 Y59_22 Y59_23 Y59_24 Y59_3 Y59_4 Y59_5 Y59_6 Y59_7 Y59_8 Y59_9)
            try clear p2
            obtain ⟨kq, x99_53, rfl, HA, HJ53, BK500, HB⟩ := hcut
            cases kq with
            | zero => exact absurd HA.out (by simp [corebankref34_Check.j4])
            | succ kj53 =>
             have H := HA.out
             clear HA
             simp only [corebankref34_Check.j4] at H
             by_cases c60 : x99_53 = true
             ·subst c60
              have H1 : (some 25) = some r := by rw [if_pos rfl] at H; exact H
              clear H
              have H := H1
              clear H1
              obtain rfl := Option.some.inj H
              go_wp2
              go_ret
              exact ⟨qe_, qb1_ GE500.out HB.out⟩
             ·replace c60 := Bool.eq_false_iff.mpr c60
              subst c60
              have H1 : (some 0) = some r := by rw [if_neg (show ¬ (false = true) by decide)] at H; exact H
              clear H
              have H := H1
              clear H1
              obtain rfl := Option.some.inj H
              go_wp2
              go_ret
              exact ⟨qe_, qb1_ GE500.out HB.out⟩
 ·replace c3 := Bool.eq_false_iff.mpr c3
  subst c3
  have H1 : (some 1) = some r := by rw [if_neg (show ¬ (false = true) by decide)] at H; exact H
  clear H
  have H := H1
  clear H1
  obtain rfl := Option.some.inj H
  go_enter Tryd.func22, Tryd.ntmps22
  go_wp2_with (first | ((with_reducible refine gate_load_ (t := 27) rfl ?_); refine ld_ (t := 27) Tryd.underlying27 rfl rfl rfl (by (repeat (first | (with_reducible first | refine blk_drewN ?_ _ | refine blk_drew ?_ | refine blk_alloc ?_ _) | refine blk_set ?_ _ _)); (with_reducible first | exact BK500.out)) rfl (by kernel_rfl) ?_) | ((with_reducible refine gate_load_ (t := 27) rfl ?_); refine ldg51_ (t := 27) Tryd.underlying27 rfl (by rfl) rfl (by (repeat (first | (with_reducible first | refine blk_drewN ?_ _ | refine blk_drew ?_ | refine blk_alloc ?_ _) | refine blk_set ?_ _ _)); (with_reducible first | exact BK500.out)) rfl (by kernel_rfl) ?_) | ((with_reducible refine gate_dst (N := 1) rfl ?_); refine be_ (N := 1) (cs := #[.int .i64 a0_0, .int .i64 a0_1, .int .i64 a0_2, .int .i64 a0_3, .int .i64 a0_4, .int .i64 a0_5, .int .i64 a0_6, .int .i64 a0_7, .int .i64 a0_8, .int .i64 a0_9, .int .i64 a0_10, .int .i64 a0_11, .int .i64 a0_12, .int .i64 a0_13, .int .i64 a0_14, .int .i64 a0_15, .int .i64 a0_16, .int .i64 a0_17, .int .i64 a0_18, .int .i64 a0_19, .int .i64 a0_20, .string a0_21, .string a0_22, .slice A0_23 l0_23.length c0_23, .slice A0_24 l0_24.length c0_24]) (t := 27) ?_; intro gb500 hg w61 hbox hb; have n0_ := Aside0.mk (below_step (qb_ HB.out) hb); have n1_ := Aside0.mk (hbox); have n2_ := Aside0.mk (bz_ hg (qb_ HB.out) : w.heap.size ≤ gb500); have n3_ := n2_; clear HB; have HB := n0_; have BK500 := n1_; have GW500 := n2_; have GE500 := n3_; clear n0_ n1_ n2_ n3_; clear hb hbox hg; obtain ⟨Z62_0, Z62_1, Z62_2, Z62_3, Z62_4, Z62_5, Z62_6, Z62_7, Z62_8, Z62_9, Z62_10, Z62_11, Z62_12, Z62_13, Z62_14, Z62_15, Z62_16, Z62_17, Z62_18, Z62_19, Z62_20, Z62_21, Z62_22, Z62_23, Z62_24, Y62_0, Y62_1, Y62_2, Y62_3, Y62_4, Y62_5, Y62_6, Y62_7, Y62_8, Y62_9, Y62_10, Y62_11, Y62_12, Y62_13, Y62_14, Y62_15, Y62_16, Y62_17, Y62_18, Y62_19, Y62_20, Y62_21, Y62_22, Y62_23, Y62_24⟩ := cz25_ BK500.out) | ((with_reducible refine gate_callee (f := 37) rfl ?_); refine goesL_ (some 5) rfl rfl Tryd.func37 (by kernel_rfl) rfl #[.agg #[.int .i64 a0_0, .int .i64 a0_1, .int .i64 a0_2, .int .i64 a0_3, .int .i64 a0_4, .int .i64 a0_5, .int .i64 a0_6, .int .i64 a0_7, .int .i64 a0_8, .int .i64 a0_9, .int .i64 a0_10, .int .i64 a0_11, .int .i64 a0_12, .int .i64 a0_13, .int .i64 a0_14, .int .i64 a0_15, .int .i64 a0_16, .int .i64 a0_17, .int .i64 a0_18, .int .i64 a0_19, .int .i64 a0_20, .string a0_21, .string a0_22, .slice A0_23 l0_23.length c0_23, .slice A0_24 l0_24.length c0_24]] rfl ql_ ?_; (with_reducible refine (corebankref34_ranged.calls k a0_0 a0_1 a0_2 a0_3 a0_4 a0_5 a0_6 a0_7 a0_8 a0_9 a0_10 a0_11 a0_12 a0_13 a0_14 a0_15 a0_16 a0_17 a0_18 a0_19 a0_20 a0_21 a0_22 _ _ l0_23 _ _ l0_24 false _ ?side1 ?side2 ?side3 ?side4 A2.out).mono ?_); (case side1 => repeat (first | exact (Kd.C_below HR0_23.out HB.out) | (with_reducible refine Kd.C_alloc ?_ _) | (with_reducible refine Kd.C_drewN ?_ _) | (with_reducible refine Kd.C_drew ?_))); (case side2 => exact HC0_23.out); (case side3 => repeat (first | exact (Kd.C_below HR0_24.out HB.out) | (with_reducible refine Kd.C_alloc ?_ _) | (with_reducible refine Kd.C_drewN ?_ _) | (with_reducible refine Kd.C_drew ?_))); (case side4 => exact HC0_24.out); rintro e w63 ⟨rfl, hb⟩; refine ⟨_, rfl, ?_⟩; have n0_ := Aside0.mk (blk_below (qk_ BK500.out) hb); have n1_ := Aside0.mk (below_step (qb1_ GE500.out HB.out) hb); clear BK500; clear HB; have BK500 := n0_; have HB := n1_; clear n0_ n1_; (try clear hb); (try clear hb2); (try clear hk); (try clear hi)))
  go_ret
  exact ⟨qe_, qb1_ GE500.out HB.out⟩
end Go.Proofs.YtjkjiibhdpcpkaaDoor.PS
end
