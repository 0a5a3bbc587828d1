import Derived.ArgAppend
import Derived.Below
import Derived.BigQuiet
import Derived.Deep.AppendLies
import Derived.Deep.CutBlock
import Derived.Deep.DeepCutAuto
import Derived.Deep.Draws
import Derived.Deep.Light
import Derived.Deep.LoopGhost
import Derived.Deep.OwnRows
import Derived.Deep.QuietTactic
import Derived.Deep.RegionHeld3
import Derived.KernelRfl
import Derived.Laws.Bits64b
import Derived.Laws.BitsAllLaws
import Derived.Laws.BitsLemmas
import Derived.Laws.BytesArg
import Derived.Laws.Externs
import Derived.Laws.IdiomCopy
import Derived.Laws.MakeOwn
import Derived.Laws.OwnMore
import Derived.Laws.Rows
import Derived.Laws.Slices
import Derived.Lib.AppendStr
import Derived.Lib.BitFns
import Derived.Lib.ConvBytes
import Derived.Lib.Mul64
import Derived.Lib.SliceRun
import Derived.Lib.Slices
import Derived.Lib.Small
import Derived.Lib.Strings
import Derived.Lib.Walk
import Derived.Maps.AppendAt
import Derived.OrdersHeld
import Derived.OwnWalk
import Derived.RowKit
import Derived.RowKit3
import Derived.Shelf.Spec.BitsCarry
import Derived.Tactics
import Derived.Test.YtjkjiibhdpcpkaaDoorProg
import Derived.WalkKit
import Derived.WideLaws
import Derived.Test.YtjkjiibhdpcpkaaDoorVm0
import Derived.Test.YtjkjiibhdpcpkaaDoorVm1
section
namespace Go.Proofs.YtjkjiibhdpcpkaaDoor.PS
open Go.RowKit Go.Proofs.YtjkjiibhdpcpkaaDoorW.PrintWords Go.Proofs.YtjkjiibhdpcpkaaDoorW.PrintLast
set_option linter.unusedVariables false
set_option linter.unusedSimpArgs false
theorem bx_ {w w1 : World} {p : Addr} {v : Value} (hb : Below w.heap.size w w1) (h : w.cell? p = some v) : w1.cell? p = some v := (hb.cell (World.block_lt_of_cell? w _ h)).trans h
def cS2_ (g : Nat) (v0 v1 : Value) (w' : World) : Prop := w'.cell? ⟨g, 0, none⟩ = some v0 ∧ w'.cell? ⟨g, 1, none⟩ = some v1
theorem cc2_ {w : World} {g : Nat} {t : TypeId} {v0 v1 : Value} (h : w.heap[g]? = some (.cells #[v0, v1] t (0, 0))) : w.cell? ⟨g, 0, none⟩ = some v0 ∧ w.cell? ⟨g, 1, none⟩ = some v1 := ⟨(blk_cell h 0).trans rfl, (blk_cell h 1).trans rfl⟩
theorem cz2_ {w : World} {g : Nat} {t : TypeId} {v0 v1 : Value} (h : w.heap[g]? = some (.cells #[v0, v1] t (0, 0))) : w.cell? ⟨g, 0, none⟩ = some v0 ∧ w.cell? ⟨g, 1, none⟩ = some v1 ∧ w.frozen? ⟨g, 0, none⟩ = false ∧ w.frozen? ⟨g, 1, none⟩ = false := ⟨(blk_cell h 0).trans rfl, (blk_cell h 1).trans rfl, blk_frozen h 0, blk_frozen h 1⟩
theorem cz4_ {w : World} {g : Nat} {t : TypeId} {v0 v1 v2 v3 : Value} (h : w.heap[g]? = some (.cells #[v0, v1, v2, v3] t (0, 0))) : w.cell? ⟨g, 0, none⟩ = some v0 ∧ w.cell? ⟨g, 1, none⟩ = some v1 ∧ w.cell? ⟨g, 2, none⟩ = some v2 ∧ w.cell? ⟨g, 3, none⟩ = some v3 ∧ w.frozen? ⟨g, 0, none⟩ = false ∧ w.frozen? ⟨g, 1, none⟩ = false ∧ w.frozen? ⟨g, 2, none⟩ = false ∧ w.frozen? ⟨g, 3, none⟩ = false := ⟨(blk_cell h 0).trans rfl, (blk_cell h 1).trans rfl, (blk_cell h 2).trans rfl, (blk_cell h 3).trans rfl, blk_frozen h 0, blk_frozen h 1, blk_frozen h 2, blk_frozen h 3⟩
theorem cz5_ {w : World} {g : Nat} {t : TypeId} {v0 v1 v2 v3 v4 : Value} (h : w.heap[g]? = some (.cells #[v0, v1, v2, v3, v4] t (0, 0))) : w.cell? ⟨g, 0, none⟩ = some v0 ∧ w.cell? ⟨g, 1, none⟩ = some v1 ∧ w.cell? ⟨g, 2, none⟩ = some v2 ∧ w.cell? ⟨g, 3, none⟩ = some v3 ∧ w.cell? ⟨g, 4, none⟩ = some v4 ∧ w.frozen? ⟨g, 0, none⟩ = false ∧ w.frozen? ⟨g, 1, none⟩ = false ∧ w.frozen? ⟨g, 2, none⟩ = false ∧ w.frozen? ⟨g, 3, none⟩ = false ∧ w.frozen? ⟨g, 4, none⟩ = false := ⟨(blk_cell h 0).trans rfl, (blk_cell h 1).trans rfl, (blk_cell h 2).trans rfl, (blk_cell h 3).trans rfl, (blk_cell h 4).trans rfl, blk_frozen h 0, blk_frozen h 1, blk_frozen h 2, blk_frozen h 3, blk_frozen h 4⟩
def cS25_ (g : Nat) (v0 v1 v2 v3 v4 v5 v6 v7 v8 v9 v10 v11 v12 v13 v14 v15 v16 v17 v18 v19 v20 v21 v22 v23 v24 : Value) (w' : World) : Prop := w'.cell? ⟨g, 0, none⟩ = some v0 ∧ w'.cell? ⟨g, 1, none⟩ = some v1 ∧ w'.cell? ⟨g, 2, none⟩ = some v2 ∧ w'.cell? ⟨g, 3, none⟩ = some v3 ∧ w'.cell? ⟨g, 4, none⟩ = some v4 ∧ w'.cell? ⟨g, 5, none⟩ = some v5 ∧ w'.cell? ⟨g, 6, none⟩ = some v6 ∧ w'.cell? ⟨g, 7, none⟩ = some v7 ∧ w'.cell? ⟨g, 8, none⟩ = some v8 ∧ w'.cell? ⟨g, 9, none⟩ = some v9 ∧ w'.cell? ⟨g, 10, none⟩ = some v10 ∧ w'.cell? ⟨g, 11, none⟩ = some v11 ∧ w'.cell? ⟨g, 12, none⟩ = some v12 ∧ w'.cell? ⟨g, 13, none⟩ = some v13 ∧ w'.cell? ⟨g, 14, none⟩ = some v14 ∧ w'.cell? ⟨g, 15, none⟩ = some v15 ∧ w'.cell? ⟨g, 16, none⟩ = some v16 ∧ w'.cell? ⟨g, 17, none⟩ = some v17 ∧ w'.cell? ⟨g, 18, none⟩ = some v18 ∧ w'.cell? ⟨g, 19, none⟩ = some v19 ∧ w'.cell? ⟨g, 20, none⟩ = some v20 ∧ w'.cell? ⟨g, 21, none⟩ = some v21 ∧ w'.cell? ⟨g, 22, none⟩ = some v22 ∧ w'.cell? ⟨g, 23, none⟩ = some v23 ∧ w'.cell? ⟨g, 24, none⟩ = some v24
theorem cc25_ {w : World} {g : Nat} {t : TypeId} {v0 v1 v2 v3 v4 v5 v6 v7 v8 v9 v10 v11 v12 v13 v14 v15 v16 v17 v18 v19 v20 v21 v22 v23 v24 : Value} (h : w.heap[g]? = some (.cells #[v0, v1, v2, v3, v4, v5, v6, v7, v8, v9, v10, v11, v12, v13, v14, v15, v16, v17, v18, v19, v20, v21, v22, v23, v24] t (0, 0))) : w.cell? ⟨g, 0, none⟩ = some v0 ∧ w.cell? ⟨g, 1, none⟩ = some v1 ∧ w.cell? ⟨g, 2, none⟩ = some v2 ∧ w.cell? ⟨g, 3, none⟩ = some v3 ∧ w.cell? ⟨g, 4, none⟩ = some v4 ∧ w.cell? ⟨g, 5, none⟩ = some v5 ∧ w.cell? ⟨g, 6, none⟩ = some v6 ∧ w.cell? ⟨g, 7, none⟩ = some v7 ∧ w.cell? ⟨g, 8, none⟩ = some v8 ∧ w.cell? ⟨g, 9, none⟩ = some v9 ∧ w.cell? ⟨g, 10, none⟩ = some v10 ∧ w.cell? ⟨g, 11, none⟩ = some v11 ∧ w.cell? ⟨g, 12, none⟩ = some v12 ∧ w.cell? ⟨g, 13, none⟩ = some v13 ∧ w.cell? ⟨g, 14, none⟩ = some v14 ∧ w.cell? ⟨g, 15, none⟩ = some v15 ∧ w.cell? ⟨g, 16, none⟩ = some v16 ∧ w.cell? ⟨g, 17, none⟩ = some v17 ∧ w.cell? ⟨g, 18, none⟩ = some v18 ∧ w.cell? ⟨g, 19, none⟩ = some v19 ∧ w.cell? ⟨g, 20, none⟩ = some v20 ∧ w.cell? ⟨g, 21, none⟩ = some v21 ∧ w.cell? ⟨g, 22, none⟩ = some v22 ∧ w.cell? ⟨g, 23, none⟩ = some v23 ∧ w.cell? ⟨g, 24, none⟩ = some v24 := ⟨(blk_cell h 0).trans rfl, (blk_cell h 1).trans rfl, (blk_cell h 2).trans rfl, (blk_cell h 3).trans rfl, (blk_cell h 4).trans rfl, (blk_cell h 5).trans rfl, (blk_cell h 6).trans rfl, (blk_cell h 7).trans rfl, (blk_cell h 8).trans rfl, (blk_cell h 9).trans rfl, (blk_cell h 10).trans rfl, (blk_cell h 11).trans rfl, (blk_cell h 12).trans rfl, (blk_cell h 13).trans rfl, (blk_cell h 14).trans rfl, (blk_cell h 15).trans rfl, (blk_cell h 16).trans rfl, (blk_cell h 17).trans rfl, (blk_cell h 18).trans rfl, (blk_cell h 19).trans rfl, (blk_cell h 20).trans rfl, (blk_cell h 21).trans rfl, (blk_cell h 22).trans rfl, (blk_cell h 23).trans rfl, (blk_cell h 24).trans rfl⟩
theorem cz25_ {w : World} {g : Nat} {t : TypeId} {v0 v1 v2 v3 v4 v5 v6 v7 v8 v9 v10 v11 v12 v13 v14 v15 v16 v17 v18 v19 v20 v21 v22 v23 v24 : Value} (h : w.heap[g]? = some (.cells #[v0, v1, v2, v3, v4, v5, v6, v7, v8, v9, v10, v11, v12, v13, v14, v15, v16, v17, v18, v19, v20, v21, v22, v23, v24] t (0, 0))) : w.cell? ⟨g, 0, none⟩ = some v0 ∧ w.cell? ⟨g, 1, none⟩ = some v1 ∧ w.cell? ⟨g, 2, none⟩ = some v2 ∧ w.cell? ⟨g, 3, none⟩ = some v3 ∧ w.cell? ⟨g, 4, none⟩ = some v4 ∧ w.cell? ⟨g, 5, none⟩ = some v5 ∧ w.cell? ⟨g, 6, none⟩ = some v6 ∧ w.cell? ⟨g, 7, none⟩ = some v7 ∧ w.cell? ⟨g, 8, none⟩ = some v8 ∧ w.cell? ⟨g, 9, none⟩ = some v9 ∧ w.cell? ⟨g, 10, none⟩ = some v10 ∧ w.cell? ⟨g, 11, none⟩ = some v11 ∧ w.cell? ⟨g, 12, none⟩ = some v12 ∧ w.cell? ⟨g, 13, none⟩ = some v13 ∧ w.cell? ⟨g, 14, none⟩ = some v14 ∧ w.cell? ⟨g, 15, none⟩ = some v15 ∧ w.cell? ⟨g, 16, none⟩ = some v16 ∧ w.cell? ⟨g, 17, none⟩ = some v17 ∧ w.cell? ⟨g, 18, none⟩ = some v18 ∧ w.cell? ⟨g, 19, none⟩ = some v19 ∧ w.cell? ⟨g, 20, none⟩ = some v20 ∧ w.cell? ⟨g, 21, none⟩ = some v21 ∧ w.cell? ⟨g, 22, none⟩ = some v22 ∧ w.cell? ⟨g, 23, none⟩ = some v23 ∧ w.cell? ⟨g, 24, none⟩ = some v24 ∧ w.frozen? ⟨g, 0, none⟩ = false ∧ w.frozen? ⟨g, 1, none⟩ = false ∧ w.frozen? ⟨g, 2, none⟩ = false ∧ w.frozen? ⟨g, 3, none⟩ = false ∧ w.frozen? ⟨g, 4, none⟩ = false ∧ w.frozen? ⟨g, 5, none⟩ = false ∧ w.frozen? ⟨g, 6, none⟩ = false ∧ w.frozen? ⟨g, 7, none⟩ = false ∧ w.frozen? ⟨g, 8, none⟩ = false ∧ w.frozen? ⟨g, 9, none⟩ = false ∧ w.frozen? ⟨g, 10, none⟩ = false ∧ w.frozen? ⟨g, 11, none⟩ = false ∧ w.frozen? ⟨g, 12, none⟩ = false ∧ w.frozen? ⟨g, 13, none⟩ = false ∧ w.frozen? ⟨g, 14, none⟩ = false ∧ w.frozen? ⟨g, 15, none⟩ = false ∧ w.frozen? ⟨g, 16, none⟩ = false ∧ w.frozen? ⟨g, 17, none⟩ = false ∧ w.frozen? ⟨g, 18, none⟩ = false ∧ w.frozen? ⟨g, 19, none⟩ = false ∧ w.frozen? ⟨g, 20, none⟩ = false ∧ w.frozen? ⟨g, 21, none⟩ = false ∧ w.frozen? ⟨g, 22, none⟩ = false ∧ w.frozen? ⟨g, 23, none⟩ = false ∧ w.frozen? ⟨g, 24, none⟩ = false := ⟨(blk_cell h 0).trans rfl, (blk_cell h 1).trans rfl, (blk_cell h 2).trans rfl, (blk_cell h 3).trans rfl, (blk_cell h 4).trans rfl, (blk_cell h 5).trans rfl, (blk_cell h 6).trans rfl, (blk_cell h 7).trans rfl, (blk_cell h 8).trans rfl, (blk_cell h 9).trans rfl, (blk_cell h 10).trans rfl, (blk_cell h 11).trans rfl, (blk_cell h 12).trans rfl, (blk_cell h 13).trans rfl, (blk_cell h 14).trans rfl, (blk_cell h 15).trans rfl, (blk_cell h 16).trans rfl, (blk_cell h 17).trans rfl, (blk_cell h 18).trans rfl, (blk_cell h 19).trans rfl, (blk_cell h 20).trans rfl, (blk_cell h 21).trans rfl, (blk_cell h 22).trans rfl, (blk_cell h 23).trans rfl, (blk_cell h 24).trans rfl, blk_frozen h 0, blk_frozen h 1, blk_frozen h 2, blk_frozen h 3, blk_frozen h 4, blk_frozen h 5, blk_frozen h 6, blk_frozen h 7, blk_frozen h 8, blk_frozen h 9, blk_frozen h 10, blk_frozen h 11, blk_frozen h 12, blk_frozen h 13, blk_frozen h 14, blk_frozen h 15, blk_frozen h 16, blk_frozen h 17, blk_frozen h 18, blk_frozen h 19, blk_frozen h 20, blk_frozen h 21, blk_frozen h 22, blk_frozen h 23, blk_frozen h 24⟩
theorem qk_ {a b : Prop} (h : b) (f : b → a := by intro hq_; (with_reducible repeat (first | refine blk_drewN ?_ _ | refine blk_drew ?_ | refine blk_alloc ?_ _)); exact hq_) : a := f h
theorem ql_ {a : Prop} (h : a := by (try simp only [List.map_toArray, List.map_cons, List.map_nil]); first | done | rfl | (simp only [List.length_drop, List.length_take]; rfl)) : a := h
theorem qb_ {a b : Prop} (h : b) (f : b → a := by intro hq_; repeat (first | (with_reducible first | exact hq_ | apply below_alloc | apply pw_below_drewN | apply below_drew1) | exact hq_)) : a := f h
theorem qb1_ {a b c0 : Prop} (g0 : c0) (h : b) (f : c0 → b → a := by intro hg0 hq_; repeat (first | (with_reducible first | exact hq_ | apply below_alloc | apply pw_below_drewN | apply below_drew1 | refine below_set ?_ hg0) | exact hq_)) : a := f g0 h
theorem qb2_ {a b c0 c1 : Prop} (g0 : c0) (g1 : c1) (h : b) (f : c0 → c1 → b → a := by intro hg0 hg1 hq_; repeat (first | (with_reducible first | exact hq_ | apply below_alloc | apply pw_below_drewN | apply below_drew1 | refine below_set ?_ hg0 | refine below_set ?_ hg1) | exact hq_)) : a := f g0 g1 h
theorem qb3_ {a b c0 c1 c2 : Prop} (g0 : c0) (g1 : c1) (g2 : c2) (h : b) (f : c0 → c1 → c2 → b → a := by intro hg0 hg1 hg2 hq_; repeat (first | (with_reducible first | exact hq_ | apply below_alloc | apply pw_below_drewN | apply below_drew1 | refine below_set ?_ hg0 | refine below_set ?_ hg1 | refine below_set ?_ hg2) | exact hq_)) : a := f g0 g1 g2 h
theorem qb4_ {a b c0 c1 c2 c3 : Prop} (g0 : c0) (g1 : c1) (g2 : c2) (g3 : c3) (h : b) (f : c0 → c1 → c2 → c3 → b → a := by intro hg0 hg1 hg2 hg3 hq_; repeat (first | (with_reducible first | exact hq_ | apply below_alloc | apply pw_below_drewN | apply below_drew1 | refine below_set ?_ hg0 | refine below_set ?_ hg1 | refine below_set ?_ hg2 | refine below_set ?_ hg3) | exact hq_)) : a := f g0 g1 g2 g3 h
theorem qb5_ {a b c0 c1 c2 c3 c4 : Prop} (g0 : c0) (g1 : c1) (g2 : c2) (g3 : c3) (g4 : c4) (h : b) (f : c0 → c1 → c2 → c3 → c4 → b → a := by intro hg0 hg1 hg2 hg3 hg4 hq_; repeat (first | (with_reducible first | exact hq_ | apply below_alloc | apply pw_below_drewN | apply below_drew1 | refine below_set ?_ hg0 | refine below_set ?_ hg1 | refine below_set ?_ hg2 | refine below_set ?_ hg3 | refine below_set ?_ hg4) | exact hq_)) : a := f g0 g1 g2 g3 g4 h
def errW : Option Int → Value
  | none => .nilIface
  | some c => .iface 0 (.int .i64 c)
theorem errW_none : errW none = .nilIface := rfl
theorem errW_some (c : Int) : errW (some c) = .iface 0 (.int .i64 c) := rfl
theorem info54 : (Tryd.prog.info? 54).map (fun i => (i.zero, i.size, i.bytes)) = some (some (.agg #[(.int .i64 0), (.int .i64 0), (.int .i64 0), (.int .i64 0)]), 4, 32) := by kernel_rfl
structure S23 where
 f0 : Int
 f1 : Int
 f2 : Int
 f3 : Int
 f4 : Int
 f5 : Int
 f6 : Int
 f7 : Int
 f8 : Int
 f9 : Int
 f10 : ByteArray
 f11 : ByteArray
def z23 : S23 := ⟨(0 : Int), (0 : Int), (0 : Int), (0 : Int), (0 : Int), (0 : Int), (0 : Int), (0 : Int), (0 : Int), (0 : Int), (⟨#[]⟩ : ByteArray), (⟨#[]⟩ : ByteArray)⟩
def k23 : Kd S23 := Kd.iso (Kd.pair (Kd.int .i64) (Kd.pair (Kd.int .i64) (Kd.pair (Kd.int .i64) (Kd.pair (Kd.int .i64) (Kd.pair (Kd.int .i64) (Kd.pair (Kd.int .i64) (Kd.pair (Kd.int .i64) (Kd.pair (Kd.int .i64) (Kd.pair (Kd.int .i64) (Kd.pair (Kd.int .i64) (Kd.pair Kd.string Kd.string))))))))))) (fun x : S23 => (x.f0, x.f1, x.f2, x.f3, x.f4, x.f5, x.f6, x.f7, x.f8, x.f9, x.f10, x.f11))
theorem k23_open {w : World} {x : S23} {cs : List Value} (h : k23.K w x cs) : cs = [.int .i64 x.f0, .int .i64 x.f1, .int .i64 x.f2, .int .i64 x.f3, .int .i64 x.f4, .int .i64 x.f5, .int .i64 x.f6, .int .i64 x.f7, .int .i64 x.f8, .int .i64 x.f9, .string x.f10, .string x.f11] := by
 obtain ⟨_, _, rfl, rfl, ⟨_, _, rfl, rfl, ⟨_, _, rfl, rfl, ⟨_, _, rfl, rfl, ⟨_, _, rfl, rfl, ⟨_, _, rfl, rfl, ⟨_, _, rfl, rfl, ⟨_, _, rfl, rfl, ⟨_, _, rfl, rfl, ⟨_, _, rfl, rfl, ⟨_, _, rfl, rfl, rfl⟩⟩⟩⟩⟩⟩⟩⟩⟩⟩⟩ := h
 exact rfl
theorem k23_mk (w : World) (x : S23)  : k23.K w x [.int .i64 x.f0, .int .i64 x.f1, .int .i64 x.f2, .int .i64 x.f3, .int .i64 x.f4, .int .i64 x.f5, .int .i64 x.f6, .int .i64 x.f7, .int .i64 x.f8, .int .i64 x.f9, .string x.f10, .string x.f11] := ⟨[.int .i64 x.f0], [.int .i64 x.f1, .int .i64 x.f2, .int .i64 x.f3, .int .i64 x.f4, .int .i64 x.f5, .int .i64 x.f6, .int .i64 x.f7, .int .i64 x.f8, .int .i64 x.f9, .string x.f10, .string x.f11], rfl, rfl, ⟨[.int .i64 x.f1], [.int .i64 x.f2, .int .i64 x.f3, .int .i64 x.f4, .int .i64 x.f5, .int .i64 x.f6, .int .i64 x.f7, .int .i64 x.f8, .int .i64 x.f9, .string x.f10, .string x.f11], rfl, rfl, ⟨[.int .i64 x.f2], [.int .i64 x.f3, .int .i64 x.f4, .int .i64 x.f5, .int .i64 x.f6, .int .i64 x.f7, .int .i64 x.f8, .int .i64 x.f9, .string x.f10, .string x.f11], rfl, rfl, ⟨[.int .i64 x.f3], [.int .i64 x.f4, .int .i64 x.f5, .int .i64 x.f6, .int .i64 x.f7, .int .i64 x.f8, .int .i64 x.f9, .string x.f10, .string x.f11], rfl, rfl, ⟨[.int .i64 x.f4], [.int .i64 x.f5, .int .i64 x.f6, .int .i64 x.f7, .int .i64 x.f8, .int .i64 x.f9, .string x.f10, .string x.f11], rfl, rfl, ⟨[.int .i64 x.f5], [.int .i64 x.f6, .int .i64 x.f7, .int .i64 x.f8, .int .i64 x.f9, .string x.f10, .string x.f11], rfl, rfl, ⟨[.int .i64 x.f6], [.int .i64 x.f7, .int .i64 x.f8, .int .i64 x.f9, .string x.f10, .string x.f11], rfl, rfl, ⟨[.int .i64 x.f7], [.int .i64 x.f8, .int .i64 x.f9, .string x.f10, .string x.f11], rfl, rfl, ⟨[.int .i64 x.f8], [.int .i64 x.f9, .string x.f10, .string x.f11], rfl, rfl, ⟨[.int .i64 x.f9], [.string x.f10, .string x.f11], rfl, rfl, ⟨[.string x.f10], [.string x.f11], rfl, rfl, rfl⟩⟩⟩⟩⟩⟩⟩⟩⟩⟩⟩
structure S50 where
 f0 : Int
 f1 : Int
 f2 : S23
def z50 : S50 := ⟨(0 : Int), (0 : Int), z23⟩
def k50 : Kd S50 := Kd.iso (Kd.pair (Kd.int .i64) (Kd.pair (Kd.int .i64) k23)) (fun x : S50 => (x.f0, x.f1, x.f2))
theorem k50_open {w : World} {x : S50} {cs : List Value} (h : k50.K w x cs) : cs = [.int .i64 x.f0, .int .i64 x.f1, .int .i64 x.f2.f0, .int .i64 x.f2.f1, .int .i64 x.f2.f2, .int .i64 x.f2.f3, .int .i64 x.f2.f4, .int .i64 x.f2.f5, .int .i64 x.f2.f6, .int .i64 x.f2.f7, .int .i64 x.f2.f8, .int .i64 x.f2.f9, .string x.f2.f10, .string x.f2.f11] := by
 obtain ⟨_, _, rfl, rfl, ⟨_, _, rfl, rfl, s2⟩⟩ := h
 obtain rfl := k23_open s2
 exact rfl
def rd_T50 (xs : List S50) (i : Int) : S50 := xs.getD i.toNat z50
theorem at_T50 {w : World} {A : Option Addr} {n : Nat} {xs : List S50} (h : Kd.C k50 w A n xs) (i : Int) (h0 : 0 ≤ i) (h1 : i < n) : ∃ ad , A = some ad ∧ w.cell? (ad.add (i.toNat * 14)) = some (.int .i64 (rd_T50 xs i).f0) ∧ w.cell? ⟨(ad.add (i.toNat * 14)).block, (ad.add (i.toNat * 14)).off + 1, none⟩ = some (.int .i64 (rd_T50 xs i).f1) ∧ w.cell? ⟨(ad.add (i.toNat * 14)).block, (ad.add (i.toNat * 14)).off + 2, none⟩ = some (.int .i64 (rd_T50 xs i).f2.f0) ∧ w.cell? ⟨(ad.add (i.toNat * 14)).block, (ad.add (i.toNat * 14)).off + 3, none⟩ = some (.int .i64 (rd_T50 xs i).f2.f1) ∧ w.cell? ⟨(ad.add (i.toNat * 14)).block, (ad.add (i.toNat * 14)).off + 4, none⟩ = some (.int .i64 (rd_T50 xs i).f2.f2) ∧ w.cell? ⟨(ad.add (i.toNat * 14)).block, (ad.add (i.toNat * 14)).off + 5, none⟩ = some (.int .i64 (rd_T50 xs i).f2.f3) ∧ w.cell? ⟨(ad.add (i.toNat * 14)).block, (ad.add (i.toNat * 14)).off + 6, none⟩ = some (.int .i64 (rd_T50 xs i).f2.f4) ∧ w.cell? ⟨(ad.add (i.toNat * 14)).block, (ad.add (i.toNat * 14)).off + 7, none⟩ = some (.int .i64 (rd_T50 xs i).f2.f5) ∧ w.cell? ⟨(ad.add (i.toNat * 14)).block, (ad.add (i.toNat * 14)).off + 8, none⟩ = some (.int .i64 (rd_T50 xs i).f2.f6) ∧ w.cell? ⟨(ad.add (i.toNat * 14)).block, (ad.add (i.toNat * 14)).off + 9, none⟩ = some (.int .i64 (rd_T50 xs i).f2.f7) ∧ w.cell? ⟨(ad.add (i.toNat * 14)).block, (ad.add (i.toNat * 14)).off + 10, none⟩ = some (.int .i64 (rd_T50 xs i).f2.f8) ∧ w.cell? ⟨(ad.add (i.toNat * 14)).block, (ad.add (i.toNat * 14)).off + 11, none⟩ = some (.int .i64 (rd_T50 xs i).f2.f9) ∧ w.cell? ⟨(ad.add (i.toNat * 14)).block, (ad.add (i.toNat * 14)).off + 12, none⟩ = some (.string (rd_T50 xs i).f2.f10) ∧ w.cell? ⟨(ad.add (i.toNat * 14)).block, (ad.add (i.toNat * 14)).off + 13, none⟩ = some (.string (rd_T50 xs i).f2.f11) := by
 obtain ⟨ad, c, e, _, hK, hc0⟩ := Kd.C_get h z50 i h0 h1
 have hc : ∀ j u, c[j]? = some u → w.cell? (ad.add (i.toNat * 14 + j)) = some u := hc0
 obtain rfl := k50_open hK
 exact ⟨ad, e, hc 0 _ rfl, by rw [← add_field _ _ 1 (by omega)]; exact hc 1 _ rfl, by rw [← add_field _ _ 2 (by omega)]; exact hc 2 _ rfl, by rw [← add_field _ _ 3 (by omega)]; exact hc 3 _ rfl, by rw [← add_field _ _ 4 (by omega)]; exact hc 4 _ rfl, by rw [← add_field _ _ 5 (by omega)]; exact hc 5 _ rfl, by rw [← add_field _ _ 6 (by omega)]; exact hc 6 _ rfl, by rw [← add_field _ _ 7 (by omega)]; exact hc 7 _ rfl, by rw [← add_field _ _ 8 (by omega)]; exact hc 8 _ rfl, by rw [← add_field _ _ 9 (by omega)]; exact hc 9 _ rfl, by rw [← add_field _ _ 10 (by omega)]; exact hc 10 _ rfl, by rw [← add_field _ _ 11 (by omega)]; exact hc 11 _ rfl, by rw [← add_field _ _ 12 (by omega)]; exact hc 12 _ rfl, by rw [← add_field _ _ 13 (by omega)]; exact hc 13 _ rfl⟩
structure S54 where
 f0 : Int
 f1 : Int
 f2 : Int
 f3 : Int
def z54 : S54 := ⟨(0 : Int), (0 : Int), (0 : Int), (0 : Int)⟩
def k54 : Kd S54 := Kd.iso (Kd.pair (Kd.int .i64) (Kd.pair (Kd.int .i64) (Kd.pair (Kd.int .i64) (Kd.int .i64)))) (fun x : S54 => (x.f0, x.f1, x.f2, x.f3))
theorem k54_open {w : World} {x : S54} {cs : List Value} (h : k54.K w x cs) : cs = [.int .i64 x.f0, .int .i64 x.f1, .int .i64 x.f2, .int .i64 x.f3] := by
 obtain ⟨_, _, rfl, rfl, ⟨_, _, rfl, rfl, ⟨_, _, rfl, rfl, rfl⟩⟩⟩ := h
 exact rfl
theorem k54_mkM (w : World) (base : Nat) (ok : Nat → Prop) (x : S54)  : k54.M w base ok x [.int .i64 x.f0, .int .i64 x.f1, .int .i64 x.f2, .int .i64 x.f3] := ⟨[.int .i64 x.f0], [.int .i64 x.f1, .int .i64 x.f2, .int .i64 x.f3], rfl, rfl, ⟨[.int .i64 x.f1], [.int .i64 x.f2, .int .i64 x.f3], rfl, rfl, ⟨[.int .i64 x.f2], [.int .i64 x.f3], rfl, rfl, rfl⟩⟩⟩
def rd_T54 (xs : List S54) (i : Int) : S54 := xs.getD i.toNat z54
theorem at_T54 {w : World} {A : Option Addr} {n : Nat} {xs : List S54} (h : Kd.C k54 w A n xs) (i : Int) (h0 : 0 ≤ i) (h1 : i < n) : ∃ ad , A = some ad ∧ w.cell? (ad.add (i.toNat * 4)) = some (.int .i64 (rd_T54 xs i).f0) ∧ w.cell? ⟨(ad.add (i.toNat * 4)).block, (ad.add (i.toNat * 4)).off + 1, none⟩ = some (.int .i64 (rd_T54 xs i).f1) ∧ w.cell? ⟨(ad.add (i.toNat * 4)).block, (ad.add (i.toNat * 4)).off + 2, none⟩ = some (.int .i64 (rd_T54 xs i).f2) ∧ w.cell? ⟨(ad.add (i.toNat * 4)).block, (ad.add (i.toNat * 4)).off + 3, none⟩ = some (.int .i64 (rd_T54 xs i).f3) := by
 obtain ⟨ad, c, e, _, hK, hc0⟩ := Kd.C_get h z54 i h0 h1
 have hc : ∀ j u, c[j]? = some u → w.cell? (ad.add (i.toNat * 4 + j)) = some u := hc0
 obtain rfl := k54_open hK
 exact ⟨ad, e, hc 0 _ rfl, by rw [← add_field _ _ 1 (by omega)]; exact hc 1 _ rfl, by rw [← add_field _ _ 2 (by omega)]; exact hc 2 _ rfl, by rw [← add_field _ _ 3 (by omega)]; exact hc 3 _ rfl⟩
structure S27 where
 f0 : Int
 f1 : Int
 f2 : Int
 f3 : Int
 f4 : Int
 f5 : Int
 f6 : Int
 f7 : Int
 f8 : Int
 f9 : Int
 f10 : Int
 f11 : S23
 f12 : (List S54)
 f13 : (List S50)
def z27 : S27 := ⟨(0 : Int), (0 : Int), (0 : Int), (0 : Int), (0 : Int), (0 : Int), (0 : Int), (0 : Int), (0 : Int), (0 : Int), (0 : Int), z23, ([] : List S54), ([] : List S50)⟩
def k27 : Kd S27 := Kd.iso (Kd.pair (Kd.int .i64) (Kd.pair (Kd.int .i64) (Kd.pair (Kd.int .i64) (Kd.pair (Kd.int .i64) (Kd.pair (Kd.int .i64) (Kd.pair (Kd.int .i64) (Kd.pair (Kd.int .i64) (Kd.pair (Kd.int .i64) (Kd.pair (Kd.int .i64) (Kd.pair (Kd.int .i64) (Kd.pair (Kd.int .i64) (Kd.pair k23 (Kd.pair (Kd.slice 54 k54) (Kd.slice 50 k50)))))))))))))) (fun x : S27 => (x.f0, x.f1, x.f2, x.f3, x.f4, x.f5, x.f6, x.f7, x.f8, x.f9, x.f10, x.f11, x.f12, x.f13))
theorem k27_open {w : World} {x : S27} {cs : List Value} (h : k27.K w x cs) : ∃ A23 c23 A24 c24, cs = [.int .i64 x.f0, .int .i64 x.f1, .int .i64 x.f2, .int .i64 x.f3, .int .i64 x.f4, .int .i64 x.f5, .int .i64 x.f6, .int .i64 x.f7, .int .i64 x.f8, .int .i64 x.f9, .int .i64 x.f10, .int .i64 x.f11.f0, .int .i64 x.f11.f1, .int .i64 x.f11.f2, .int .i64 x.f11.f3, .int .i64 x.f11.f4, .int .i64 x.f11.f5, .int .i64 x.f11.f6, .int .i64 x.f11.f7, .int .i64 x.f11.f8, .int .i64 x.f11.f9, .string x.f11.f10, .string x.f11.f11, .slice A23 x.f12.length c23, .slice A24 x.f13.length c24] ∧ x.f12.length ≤ c23 ∧ k54.C w A23 x.f12.length x.f12 ∧ x.f13.length ≤ c24 ∧ k50.C w A24 x.f13.length x.f13 := by
 obtain ⟨_, _, rfl, rfl, ⟨_, _, rfl, rfl, ⟨_, _, rfl, rfl, ⟨_, _, rfl, rfl, ⟨_, _, rfl, rfl, ⟨_, _, rfl, rfl, ⟨_, _, rfl, rfl, ⟨_, _, rfl, rfl, ⟨_, _, rfl, rfl, ⟨_, _, rfl, rfl, ⟨_, _, rfl, rfl, ⟨_, _, rfl, s11, ⟨_, _, rfl, ⟨A23, c23, rfl, l23, g23⟩, ⟨A24, c24, rfl, l24, g24⟩⟩⟩⟩⟩⟩⟩⟩⟩⟩⟩⟩⟩⟩ := h
 obtain rfl := k23_open s11
 exact ⟨A23, c23, A24, c24, rfl, l23, g23, l24, g24⟩
theorem k27_mk (w : World) (x : S27) {A23 : Option Addr} {c23 : Nat} (l23 : x.f12.length ≤ c23) (g23 : k54.C w A23 x.f12.length x.f12) {A24 : Option Addr} {c24 : Nat} (l24 : x.f13.length ≤ c24) (g24 : k50.C w A24 x.f13.length x.f13) : k27.K w x [.int .i64 x.f0, .int .i64 x.f1, .int .i64 x.f2, .int .i64 x.f3, .int .i64 x.f4, .int .i64 x.f5, .int .i64 x.f6, .int .i64 x.f7, .int .i64 x.f8, .int .i64 x.f9, .int .i64 x.f10, .int .i64 x.f11.f0, .int .i64 x.f11.f1, .int .i64 x.f11.f2, .int .i64 x.f11.f3, .int .i64 x.f11.f4, .int .i64 x.f11.f5, .int .i64 x.f11.f6, .int .i64 x.f11.f7, .int .i64 x.f11.f8, .int .i64 x.f11.f9, .string x.f11.f10, .string x.f11.f11, .slice A23 x.f12.length c23, .slice A24 x.f13.length c24] := ⟨[.int .i64 x.f0], [.int .i64 x.f1, .int .i64 x.f2, .int .i64 x.f3, .int .i64 x.f4, .int .i64 x.f5, .int .i64 x.f6, .int .i64 x.f7, .int .i64 x.f8, .int .i64 x.f9, .int .i64 x.f10, .int .i64 x.f11.f0, .int .i64 x.f11.f1, .int .i64 x.f11.f2, .int .i64 x.f11.f3, .int .i64 x.f11.f4, .int .i64 x.f11.f5, .int .i64 x.f11.f6, .int .i64 x.f11.f7, .int .i64 x.f11.f8, .int .i64 x.f11.f9, .string x.f11.f10, .string x.f11.f11, .slice A23 x.f12.length c23, .slice A24 x.f13.length c24], rfl, rfl, ⟨[.int .i64 x.f1], [.int .i64 x.f2, .int .i64 x.f3, .int .i64 x.f4, .int .i64 x.f5, .int .i64 x.f6, .int .i64 x.f7, .int .i64 x.f8, .int .i64 x.f9, .int .i64 x.f10, .int .i64 x.f11.f0, .int .i64 x.f11.f1, .int .i64 x.f11.f2, .int .i64 x.f11.f3, .int .i64 x.f11.f4, .int .i64 x.f11.f5, .int .i64 x.f11.f6, .int .i64 x.f11.f7, .int .i64 x.f11.f8, .int .i64 x.f11.f9, .string x.f11.f10, .string x.f11.f11, .slice A23 x.f12.length c23, .slice A24 x.f13.length c24], rfl, rfl, ⟨[.int .i64 x.f2], [.int .i64 x.f3, .int .i64 x.f4, .int .i64 x.f5, .int .i64 x.f6, .int .i64 x.f7, .int .i64 x.f8, .int .i64 x.f9, .int .i64 x.f10, .int .i64 x.f11.f0, .int .i64 x.f11.f1, .int .i64 x.f11.f2, .int .i64 x.f11.f3, .int .i64 x.f11.f4, .int .i64 x.f11.f5, .int .i64 x.f11.f6, .int .i64 x.f11.f7, .int .i64 x.f11.f8, .int .i64 x.f11.f9, .string x.f11.f10, .string x.f11.f11, .slice A23 x.f12.length c23, .slice A24 x.f13.length c24], rfl, rfl, ⟨[.int .i64 x.f3], [.int .i64 x.f4, .int .i64 x.f5, .int .i64 x.f6, .int .i64 x.f7, .int .i64 x.f8, .int .i64 x.f9, .int .i64 x.f10, .int .i64 x.f11.f0, .int .i64 x.f11.f1, .int .i64 x.f11.f2, .int .i64 x.f11.f3, .int .i64 x.f11.f4, .int .i64 x.f11.f5, .int .i64 x.f11.f6, .int .i64 x.f11.f7, .int .i64 x.f11.f8, .int .i64 x.f11.f9, .string x.f11.f10, .string x.f11.f11, .slice A23 x.f12.length c23, .slice A24 x.f13.length c24], rfl, rfl, ⟨[.int .i64 x.f4], [.int .i64 x.f5, .int .i64 x.f6, .int .i64 x.f7, .int .i64 x.f8, .int .i64 x.f9, .int .i64 x.f10, .int .i64 x.f11.f0, .int .i64 x.f11.f1, .int .i64 x.f11.f2, .int .i64 x.f11.f3, .int .i64 x.f11.f4, .int .i64 x.f11.f5, .int .i64 x.f11.f6, .int .i64 x.f11.f7, .int .i64 x.f11.f8, .int .i64 x.f11.f9, .string x.f11.f10, .string x.f11.f11, .slice A23 x.f12.length c23, .slice A24 x.f13.length c24], rfl, rfl, ⟨[.int .i64 x.f5], [.int .i64 x.f6, .int .i64 x.f7, .int .i64 x.f8, .int .i64 x.f9, .int .i64 x.f10, .int .i64 x.f11.f0, .int .i64 x.f11.f1, .int .i64 x.f11.f2, .int .i64 x.f11.f3, .int .i64 x.f11.f4, .int .i64 x.f11.f5, .int .i64 x.f11.f6, .int .i64 x.f11.f7, .int .i64 x.f11.f8, .int .i64 x.f11.f9, .string x.f11.f10, .string x.f11.f11, .slice A23 x.f12.length c23, .slice A24 x.f13.length c24], rfl, rfl, ⟨[.int .i64 x.f6], [.int .i64 x.f7, .int .i64 x.f8, .int .i64 x.f9, .int .i64 x.f10, .int .i64 x.f11.f0, .int .i64 x.f11.f1, .int .i64 x.f11.f2, .int .i64 x.f11.f3, .int .i64 x.f11.f4, .int .i64 x.f11.f5, .int .i64 x.f11.f6, .int .i64 x.f11.f7, .int .i64 x.f11.f8, .int .i64 x.f11.f9, .string x.f11.f10, .string x.f11.f11, .slice A23 x.f12.length c23, .slice A24 x.f13.length c24], rfl, rfl, ⟨[.int .i64 x.f7], [.int .i64 x.f8, .int .i64 x.f9, .int .i64 x.f10, .int .i64 x.f11.f0, .int .i64 x.f11.f1, .int .i64 x.f11.f2, .int .i64 x.f11.f3, .int .i64 x.f11.f4, .int .i64 x.f11.f5, .int .i64 x.f11.f6, .int .i64 x.f11.f7, .int .i64 x.f11.f8, .int .i64 x.f11.f9, .string x.f11.f10, .string x.f11.f11, .slice A23 x.f12.length c23, .slice A24 x.f13.length c24], rfl, rfl, ⟨[.int .i64 x.f8], [.int .i64 x.f9, .int .i64 x.f10, .int .i64 x.f11.f0, .int .i64 x.f11.f1, .int .i64 x.f11.f2, .int .i64 x.f11.f3, .int .i64 x.f11.f4, .int .i64 x.f11.f5, .int .i64 x.f11.f6, .int .i64 x.f11.f7, .int .i64 x.f11.f8, .int .i64 x.f11.f9, .string x.f11.f10, .string x.f11.f11, .slice A23 x.f12.length c23, .slice A24 x.f13.length c24], rfl, rfl, ⟨[.int .i64 x.f9], [.int .i64 x.f10, .int .i64 x.f11.f0, .int .i64 x.f11.f1, .int .i64 x.f11.f2, .int .i64 x.f11.f3, .int .i64 x.f11.f4, .int .i64 x.f11.f5, .int .i64 x.f11.f6, .int .i64 x.f11.f7, .int .i64 x.f11.f8, .int .i64 x.f11.f9, .string x.f11.f10, .string x.f11.f11, .slice A23 x.f12.length c23, .slice A24 x.f13.length c24], rfl, rfl, ⟨[.int .i64 x.f10], [.int .i64 x.f11.f0, .int .i64 x.f11.f1, .int .i64 x.f11.f2, .int .i64 x.f11.f3, .int .i64 x.f11.f4, .int .i64 x.f11.f5, .int .i64 x.f11.f6, .int .i64 x.f11.f7, .int .i64 x.f11.f8, .int .i64 x.f11.f9, .string x.f11.f10, .string x.f11.f11, .slice A23 x.f12.length c23, .slice A24 x.f13.length c24], rfl, rfl, ⟨[.int .i64 x.f11.f0, .int .i64 x.f11.f1, .int .i64 x.f11.f2, .int .i64 x.f11.f3, .int .i64 x.f11.f4, .int .i64 x.f11.f5, .int .i64 x.f11.f6, .int .i64 x.f11.f7, .int .i64 x.f11.f8, .int .i64 x.f11.f9, .string x.f11.f10, .string x.f11.f11], [.slice A23 x.f12.length c23, .slice A24 x.f13.length c24], rfl, (k23_mk w x.f11 ), ⟨[.slice A23 x.f12.length c23], [.slice A24 x.f13.length c24], rfl, ⟨A23, c23, rfl, l23, g23⟩, ⟨A24, c24, rfl, l24, g24⟩⟩⟩⟩⟩⟩⟩⟩⟩⟩⟩⟩⟩⟩
theorem k27_mkF (W : World) (ok : Nat → Prop) (x : S27) {A23 : Option Addr} {c23 : Nat} (l23 : x.f12.length ≤ c23) (g23 : Kd.F k54 W ok A23 x.f12.length x.f12) {A24 : Option Addr} {c24 : Nat} (l24 : x.f13.length ≤ c24) (g24 : Kd.F k50 W ok A24 x.f13.length x.f13) : Kd.FK k27 W ok x [.int .i64 x.f0, .int .i64 x.f1, .int .i64 x.f2, .int .i64 x.f3, .int .i64 x.f4, .int .i64 x.f5, .int .i64 x.f6, .int .i64 x.f7, .int .i64 x.f8, .int .i64 x.f9, .int .i64 x.f10, .int .i64 x.f11.f0, .int .i64 x.f11.f1, .int .i64 x.f11.f2, .int .i64 x.f11.f3, .int .i64 x.f11.f4, .int .i64 x.f11.f5, .int .i64 x.f11.f6, .int .i64 x.f11.f7, .int .i64 x.f11.f8, .int .i64 x.f11.f9, .string x.f11.f10, .string x.f11.f11, .slice A23 x.f12.length c23, .slice A24 x.f13.length c24] := fun W2 hW => k27_mk W2 x l23 (g23 W2 hW) l24 (g24 W2 hW)
def rd_T27 (xs : List S27) (i : Int) : S27 := xs.getD i.toNat z27
theorem at_T27 {w : World} {A : Option Addr} {n : Nat} {xs : List S27} (h : Kd.C k27 w A n xs) (i : Int) (h0 : 0 ≤ i) (h1 : i < n) : ∃ ad A23 c23 A24 c24, A = some ad ∧ w.cell? (ad.add (i.toNat * 25)) = some (.int .i64 (rd_T27 xs i).f0) ∧ w.cell? ⟨(ad.add (i.toNat * 25)).block, (ad.add (i.toNat * 25)).off + 1, none⟩ = some (.int .i64 (rd_T27 xs i).f1) ∧ w.cell? ⟨(ad.add (i.toNat * 25)).block, (ad.add (i.toNat * 25)).off + 2, none⟩ = some (.int .i64 (rd_T27 xs i).f2) ∧ w.cell? ⟨(ad.add (i.toNat * 25)).block, (ad.add (i.toNat * 25)).off + 3, none⟩ = some (.int .i64 (rd_T27 xs i).f3) ∧ w.cell? ⟨(ad.add (i.toNat * 25)).block, (ad.add (i.toNat * 25)).off + 4, none⟩ = some (.int .i64 (rd_T27 xs i).f4) ∧ w.cell? ⟨(ad.add (i.toNat * 25)).block, (ad.add (i.toNat * 25)).off + 5, none⟩ = some (.int .i64 (rd_T27 xs i).f5) ∧ w.cell? ⟨(ad.add (i.toNat * 25)).block, (ad.add (i.toNat * 25)).off + 6, none⟩ = some (.int .i64 (rd_T27 xs i).f6) ∧ w.cell? ⟨(ad.add (i.toNat * 25)).block, (ad.add (i.toNat * 25)).off + 7, none⟩ = some (.int .i64 (rd_T27 xs i).f7) ∧ w.cell? ⟨(ad.add (i.toNat * 25)).block, (ad.add (i.toNat * 25)).off + 8, none⟩ = some (.int .i64 (rd_T27 xs i).f8) ∧ w.cell? ⟨(ad.add (i.toNat * 25)).block, (ad.add (i.toNat * 25)).off + 9, none⟩ = some (.int .i64 (rd_T27 xs i).f9) ∧ w.cell? ⟨(ad.add (i.toNat * 25)).block, (ad.add (i.toNat * 25)).off + 10, none⟩ = some (.int .i64 (rd_T27 xs i).f10) ∧ w.cell? ⟨(ad.add (i.toNat * 25)).block, (ad.add (i.toNat * 25)).off + 11, none⟩ = some (.int .i64 (rd_T27 xs i).f11.f0) ∧ w.cell? ⟨(ad.add (i.toNat * 25)).block, (ad.add (i.toNat * 25)).off + 12, none⟩ = some (.int .i64 (rd_T27 xs i).f11.f1) ∧ w.cell? ⟨(ad.add (i.toNat * 25)).block, (ad.add (i.toNat * 25)).off + 13, none⟩ = some (.int .i64 (rd_T27 xs i).f11.f2) ∧ w.cell? ⟨(ad.add (i.toNat * 25)).block, (ad.add (i.toNat * 25)).off + 14, none⟩ = some (.int .i64 (rd_T27 xs i).f11.f3) ∧ w.cell? ⟨(ad.add (i.toNat * 25)).block, (ad.add (i.toNat * 25)).off + 15, none⟩ = some (.int .i64 (rd_T27 xs i).f11.f4) ∧ w.cell? ⟨(ad.add (i.toNat * 25)).block, (ad.add (i.toNat * 25)).off + 16, none⟩ = some (.int .i64 (rd_T27 xs i).f11.f5) ∧ w.cell? ⟨(ad.add (i.toNat * 25)).block, (ad.add (i.toNat * 25)).off + 17, none⟩ = some (.int .i64 (rd_T27 xs i).f11.f6) ∧ w.cell? ⟨(ad.add (i.toNat * 25)).block, (ad.add (i.toNat * 25)).off + 18, none⟩ = some (.int .i64 (rd_T27 xs i).f11.f7) ∧ w.cell? ⟨(ad.add (i.toNat * 25)).block, (ad.add (i.toNat * 25)).off + 19, none⟩ = some (.int .i64 (rd_T27 xs i).f11.f8) ∧ w.cell? ⟨(ad.add (i.toNat * 25)).block, (ad.add (i.toNat * 25)).off + 20, none⟩ = some (.int .i64 (rd_T27 xs i).f11.f9) ∧ w.cell? ⟨(ad.add (i.toNat * 25)).block, (ad.add (i.toNat * 25)).off + 21, none⟩ = some (.string (rd_T27 xs i).f11.f10) ∧ w.cell? ⟨(ad.add (i.toNat * 25)).block, (ad.add (i.toNat * 25)).off + 22, none⟩ = some (.string (rd_T27 xs i).f11.f11) ∧ w.cell? ⟨(ad.add (i.toNat * 25)).block, (ad.add (i.toNat * 25)).off + 23, none⟩ = some (.slice A23 (rd_T27 xs i).f12.length c23) ∧ w.cell? ⟨(ad.add (i.toNat * 25)).block, (ad.add (i.toNat * 25)).off + 24, none⟩ = some (.slice A24 (rd_T27 xs i).f13.length c24) ∧ (rd_T27 xs i).f12.length ≤ c23 ∧ k54.C w A23 (rd_T27 xs i).f12.length (rd_T27 xs i).f12 ∧ (rd_T27 xs i).f13.length ≤ c24 ∧ k50.C w A24 (rd_T27 xs i).f13.length (rd_T27 xs i).f13 := by
 obtain ⟨ad, c, e, _, hK, hc0⟩ := Kd.C_get h z27 i h0 h1
 have hc : ∀ j u, c[j]? = some u → w.cell? (ad.add (i.toNat * 25 + j)) = some u := hc0
 obtain ⟨A23, c23, A24, c24, rfl, l23, g23, l24, g24⟩ := k27_open hK
 exact ⟨ad, A23, c23, A24, c24, e, hc 0 _ rfl, by rw [← add_field _ _ 1 (by omega)]; exact hc 1 _ rfl, by rw [← add_field _ _ 2 (by omega)]; exact hc 2 _ rfl, by rw [← add_field _ _ 3 (by omega)]; exact hc 3 _ rfl, by rw [← add_field _ _ 4 (by omega)]; exact hc 4 _ rfl, by rw [← add_field _ _ 5 (by omega)]; exact hc 5 _ rfl, by rw [← add_field _ _ 6 (by omega)]; exact hc 6 _ rfl, by rw [← add_field _ _ 7 (by omega)]; exact hc 7 _ rfl, by rw [← add_field _ _ 8 (by omega)]; exact hc 8 _ rfl, by rw [← add_field _ _ 9 (by omega)]; exact hc 9 _ rfl, by rw [← add_field _ _ 10 (by omega)]; exact hc 10 _ rfl, by rw [← add_field _ _ 11 (by omega)]; exact hc 11 _ rfl, by rw [← add_field _ _ 12 (by omega)]; exact hc 12 _ rfl, by rw [← add_field _ _ 13 (by omega)]; exact hc 13 _ rfl, by rw [← add_field _ _ 14 (by omega)]; exact hc 14 _ rfl, by rw [← add_field _ _ 15 (by omega)]; exact hc 15 _ rfl, by rw [← add_field _ _ 16 (by omega)]; exact hc 16 _ rfl, by rw [← add_field _ _ 17 (by omega)]; exact hc 17 _ rfl, by rw [← add_field _ _ 18 (by omega)]; exact hc 18 _ rfl, by rw [← add_field _ _ 19 (by omega)]; exact hc 19 _ rfl, by rw [← add_field _ _ 20 (by omega)]; exact hc 20 _ rfl, by rw [← add_field _ _ 21 (by omega)]; exact hc 21 _ rfl, by rw [← add_field _ _ 22 (by omega)]; exact hc 22 _ rfl, by rw [← add_field _ _ 23 (by omega)]; exact hc 23 _ rfl, by rw [← add_field _ _ 24 (by omega)]; exact hc 24 _ rfl, l23, g23, l24, g24⟩
def inI (x : Int) : Prop := -9223372036854775808 ≤ x ∧ x ≤ 9223372036854775807
def inU (x : Int) : Prop := 0 ≤ x ∧ x ≤ 18446744073709551615
instance (x : Int) : Decidable (inI x) := by unfold inI; exact inferInstance
instance (x : Int) : Decidable (inU x) := by unfold inU; exact inferInstance
theorem notNat (b : Nat) (h : b < 18446744073709551616) : 18446744073709551615 ^^^ b = 18446744073709551615 - b := by
 have h1 := congrArg BitVec.toNat (BitVec.allOnes_xor (x := BitVec.ofNat 64 b))
 rw [BitVec.toNat_xor, BitVec.toNat_not, BitVec.toNat_allOnes, BitVec.toNat_ofNat, Nat.mod_eq_of_lt (by omega)] at h1
 simpa using h1
theorem xorMax (b : Int) (h0 : 0 ≤ b) (h1 : b ≤ 18446744073709551615) : bits BinOp.xor IntKind.u64 IntKind.u64.max b = 18446744073709551615 - b := by
 obtain ⟨b, rfl⟩ := Int.eq_ofNat_of_zero_le h0
 have e : IntKind.u64.max = ((18446744073709551615 : Nat) : Int) := by decide
 rw [e, u64_xor_nat _ _ (by omega) (by omega), notNat b (by omega)]
 omega
theorem xorM1 (a : Int) (h0 : -9223372036854775808 ≤ a) (h1 : a ≤ 9223372036854775807) : bits BinOp.xor IntKind.i64 (-1) a = -1 - a := by
 unfold bits
 have e : BitVec.ofInt 64 (-1) = BitVec.allOnes 64 := by decide
 have h2 : (BitVec.allOnes 64 ^^^ BitVec.ofInt 64 a).toNat = 18446744073709551615 - (BitVec.ofInt 64 a).toNat := by
  rw [BitVec.allOnes_xor, BitVec.toNat_not]
 have h3 : (BitVec.ofInt 64 a).toNat = (a % 18446744073709551616).toNat := by simp [BitVec.toNat_ofInt]
 show IntKind.i64.wrap ((BitVec.ofInt 64 (-1) ^^^ BitVec.ofInt 64 a).toNat : Int) = _
 rw [e, h2, h3, IntKind.wrap_i64]
 omega
def addLo (x y : Int) : Int := ((x.toNat : Int) + (y.toNat : Int)) % 18446744073709551616
def addHi (x y : Int) : Int := ((x.toNat : Int) + (y.toNat : Int)) / 18446744073709551616
theorem add64_run (x y : Int) (w : World) :
  (callFunc 69 #[.int .u64 x, .int .u64 y, .int .u64 0]).run Tryd.prog w = .ok (.value (.tuple #[.int .u64 (addLo x y), .int .u64 (addHi x y)])) w := by
 rw [run_callFunc_extern Tryd.func69 (by kernel_rfl) (by kernel_rfl) (by kernel_rfl) (e := add64Entry) (by kernel_rfl)]
 have e : (add64Entry #[.int .u64 x, .int .u64 y, .int .u64 0]).run Tryd.prog w = (add64Entry #[.int .u64 (x.toNat : Int), .int .u64 (y.toNat : Int), .int .u64 0]).run Tryd.prog w := rfl
 rw [e, run_add64 _ _ 0 (by omega) (by omega) (by omega) (by omega) w]
 simp only [Result.andThen, addLo, addHi, Int.add_zero]
def stepsL : List Int := [0, 0, 1, 0, 0, 1, 0, 0, 1, 1]
/-- WHAT THE LISTED PACKAGE-LEVEL VARIABLES HOLD, as the walks ask it. -/
structure GW (w : World) : Prop where
 spos : 1 < w.heap.size
 st : ∀ i, i < 10 → w.cell? ⟨1, i, none⟩ = some (.int .i64 (stepsL.getD i 0))
 cpos : 0 < w.heap.size
 cl : ∀ i, i < 4 → w.cell? ⟨0, i, none⟩ = some (.int .i64 (30 * (i : Int)))
theorem GW.below {w w' : World} (h : GW w) (hb : Below w.heap.size w w') : GW w' where
 spos := Nat.lt_of_lt_of_le h.spos hb.size
 st := fun i hi => (hb.cell (p := ⟨1, i, none⟩) h.spos).trans (h.st i hi)
 cpos := Nat.lt_of_lt_of_le h.cpos hb.size
 cl := fun i hi => (hb.cell (p := ⟨0, i, none⟩) h.cpos).trans (h.cl i hi)
theorem GW.drewN {w : World} (h : GW w) (n : Nat) : GW (w.drewN n) := h.below (Drawn0.below ⟨⟨n, rfl⟩⟩)
theorem GW.drew {w : World} (h : GW w) : GW w.drew := h.below (Below.refl _ _).drew
/-- What is added to a quotient that was rounded down: 1 or 0. -/
def upB (neg odd : Bool) (r n m : Int) : Bool :=
 if m = 1 then neg else if m = 2 then !neg else if m = 3 then false else if m = 4 then true
 else if r > n - r then true else if r < n - r then false else if m = 6 then odd else !neg
/-- The rounded quotient. -/
def rq (a n m : Int) : Int := a / n + (if 0 < a % n ∧ upB (decide (a / n < 0)) (decide (a / n % 2 = 1)) (a % n) n m = true then 1 else 0)
/-- An exact quotient is not rounded. -/
theorem rq_exact (q n m : Int) (hn : 0 < n) : rq (q * n) n m = q := by
 unfold rq
 rw [Int.mul_ediv_cancel _ (by omega)]
 simp
def isW (h l : Int) : Prop := inI h ∧ inU l
instance (h l : Int) : Decidable (isW h l) := by unfold isW; exact inferInstance
def wv (h l : Int) : Int := h * 18446744073709551616 + l
def in128 (v : Int) : Prop := -170141183460469231731687303715884105728 ≤ v ∧ v ≤ 170141183460469231731687303715884105727
instance (v : Int) : Decidable (in128 v) := by unfold in128; exact inferInstance
theorem u64_id (x : Int) (h0 : 0 ≤ x) (h1 : x < 18446744073709551616) : IntKind.u64.wrap x = x := by rw [IntKind.wrap_u64]; omega
theorem i64_id (x : Int) (h0 : -9223372036854775808 ≤ x) (h1 : x ≤ 9223372036854775807) : wrap64 x = x := by unfold wrap64; omega
theorem andTop (x : Int) (h0 : 0 ≤ x) (h1 : x < 18446744073709551616) : (Go.bits .and .u64 x 9223372036854775808 = 0) ↔ x < 9223372036854775808 := by
 obtain ⟨n, rfl⟩ := Int.eq_ofNat_of_zero_le h0
 have h := u64_and_nat n 9223372036854775808 (by omega) (by omega)
 rw [show ((9223372036854775808 : Nat) : Int) = 9223372036854775808 from rfl] at h
 rw [h]
 have e : (n &&& 2 ^ 63).testBit 63 = n.testBit 63 := by rw [Nat.testBit_and, Nat.testBit_two_pow_self, Bool.and_true]
 rw [show (9223372036854775808 : Nat) = 2 ^ 63 by decide]
 constructor
 ·intro hz
  have hz' : n &&& 2 ^ 63 = 0 := by omega
  rw [hz', Nat.zero_testBit] at e
  by_cases hn : n < 9223372036854775808
  ·omega
  ·exfalso
   rw [Nat.testBit_eq_decide_div_mod_eq] at e
   have := of_decide_eq_false e.symm
   omega
 ·intro hn
  have hz : n &&& 2 ^ 63 = 0 := by
   apply Nat.eq_of_testBit_eq
   intro i
   rw [Nat.testBit_and, Nat.testBit_two_pow, Nat.zero_testBit]
   by_cases hi : 63 = i
   ·subst hi
    rw [Nat.testBit_lt_two_pow (by omega)]
    rfl
   ·simp [hi]
  rw [hz]; rfl
theorem div_of {n y q r : Int} (hy : 0 < y) (h : n = q * y + r) (h0 : 0 ≤ r) (h1 : r < y) : n / y = q ∧ n % y = r := by
 have e : n / y = q := by
  rw [h, Int.add_comm, Int.add_mul_ediv_right _ _ (by omega), Int.ediv_eq_zero_of_lt h0 h1]; omega
 refine ⟨e, ?_⟩
 have := Int.emod_add_mul_ediv n y
 rw [e, Int.mul_comm] at this
 omega
theorem neg_div {m n : Int} (hn : 0 < n) : -m / n = (if 0 < m % n then -(m / n + 1) else -(m / n)) ∧ -m % n = (if 0 < m % n then n - m % n else 0) := by
 have h1 := Int.emod_nonneg m (show n ≠ 0 by omega)
 have h2 := Int.emod_lt_of_pos m hn
 have h3 := Int.emod_add_mul_ediv m n
 split
 ·refine div_of hn (n := -m) (q := -(m / n + 1)) (r := n - m % n) ?_ (by omega) (by omega)
  rw [Int.neg_mul, Int.add_mul, Int.one_mul, Int.mul_comm (m / n)]
  omega
 ·refine div_of hn (n := -m) (q := -(m / n)) (r := 0) ?_ (by omega) (by omega)
  rw [Int.neg_mul, Int.mul_comm (m / n)]
  omega
theorem mul_abs (a b : Int) (a0 : -9223372036854775808 ≤ a) (a1 : a ≤ 9223372036854775807) (b0 : -9223372036854775808 ≤ b) (b1 : b ≤ 9223372036854775807) :
  (if a < 0 then -a else a) * (if b < 0 then -b else b) = (if decide (a < 0) != decide (b < 0) then -(a * b) else a * b) ∧
  0 ≤ (if a < 0 then -a else a) * (if b < 0 then -b else b) ∧ (if a < 0 then -a else a) * (if b < 0 then -b else b) ≤ 85070591730234615865843651857942052864 := by
 have h0 : 0 ≤ (if a < 0 then -a else a) ∧ (if a < 0 then -a else a) ≤ 9223372036854775808 := by split <;> omega
 have h1 : 0 ≤ (if b < 0 then -b else b) ∧ (if b < 0 then -b else b) ≤ 9223372036854775808 := by split <;> omega
 refine ⟨?_, Int.mul_nonneg h0.1 h1.1, ?_⟩
 ·by_cases ha : a < 0 <;> by_cases hb : b < 0 <;> simp [ha, hb, Int.neg_mul, Int.mul_neg]
 ·have := Int.mul_le_mul h0.2 h1.2 h1.1 (by decide)
  omega
/-- What a rounded division answers: the quotient and the code of the error. -/
def divR (v n mode : Int) : Int × Int := if n < 1 ∨ mode < 1 ∨ 6 < mode then (0, 1) else if inI (rq v n mode) then (rq v n mode, 0) else (0, 6)
/-- The quotient's size. -/
theorem quo_range {v n : Int} (vr : -170141183460469231731687303715884105728 ≤ v ∧ v ≤ 170141183460469231731687303715884105727) (hn : 1 ≤ n) :
  (-170141183460469231731687303715884105728 ≤ v / n ∧ v / n ≤ 170141183460469231731687303715884105727) ∧ (0 < v % n → v / n ≤ 170141183460469231731687303715884105726) := by
 have r0 := Int.emod_nonneg v (show n ≠ 0 by omega)
 have r1 := Int.emod_lt_of_pos v (show 0 < n by omega)
 have h3 := Int.emod_add_mul_ediv v n
 constructor
 ·by_cases hv0 : 0 ≤ v
  ·have := Int.ediv_nonneg hv0 (show 0 ≤ n by omega)
   have := Int.ediv_le_self n hv0
   omega
  ·have h4 : v / n < 0 := Int.ediv_neg_of_neg_of_pos (by omega) (by omega)
   have h5 := Int.mul_le_mul_of_nonpos_right (show 1 ≤ n by omega) (show v / n + 1 ≤ 0 by omega)
   rw [Int.mul_add, Int.mul_one, Int.one_mul] at h5
   omega
 ·intro hr
  by_cases h1n : n = 1
  ·subst h1n; rw [Int.emod_one] at hr; omega
  ·by_cases hq0 : 0 ≤ v / n
   ·have h4 : 2 * (v / n) ≤ n * (v / n) := Int.mul_le_mul_of_nonneg_right (by omega) hq0
    omega
   ·omega
theorem gate_load_ {P : Program} {ops : Array Oper} {rest : List Oper} {o : Oper} {a : Act} {Q : Exit → Act → World → Prop} {W : World} {t : TypeId} {p : Tmp} (_ho : o.op = .load t (.tmp p)) (h : wpList P ops Q (o :: rest) a W) : wpList P ops Q (o :: rest) a W := h
theorem ld_of_cells {P : Program} {w : World} {g : Nat} {t : TypeId} {d : TypeDesc} (cs : List Value) (hc : ∀ j v, cs[j]? = some v → w.cell? ⟨g, j, none⟩ = some v) (hu : P.underlying t = some d)
    (hd : (match d with | .struct _ | .array _ _ => true | _ => false) = true) (hi : (P.info? t).map (·.size) = some cs.length) : (Instr.loadAt t (.pointer (some ⟨g, 0, none⟩))).run P w = .ok (.agg cs.toArray) w := by
  have hl : (loadCells ⟨g, 0, none⟩ cs.length).run P w = .ok cs.toArray w :=
    run_loadCells_list (P := P) w ⟨g, 0, none⟩ cs (fun j v hv => by
      have hadd : (⟨g, 0, none⟩ : Addr).add j = ⟨g, j, none⟩ := by unfold Addr.add; split <;> simp_all
      rw [hadd]; exact hc j v hv)
  cases hq : P.info? t with
  | none => simp [hq] at hi
  | some i =>
    have hs : i.size = cs.length := by simpa [hq] using hi
    have hagg : (isAgg t).run P w = .ok true w := by
      unfold isAgg
      rw [Sem.run_bind, run_underlying hu w]
      cases d <;> simp_all
    simp only [Instr.loadAt, Instr.sureAddr, Sem.run_bind, Sem.run_pure, Result.andThen]
    simp [loadVar, Sem.run_bind, hagg, sizeOf, typeInfo, hq, hs, hl]
theorem ldx_ {P : Program} {a : Act} {o : Oper} {w : World} {t : TypeId} {b : Tmp} {g : Nat} {cs : Array Value} (ho : o.op = .load t (.tmp b)) (hx : a.eval (.tmp b) = .pointer (some ⟨g, 0, none⟩))
    (hl : (Instr.loadAt t (.pointer (some ⟨g, 0, none⟩))).run P w = .ok (.agg cs) w) : (execOp a.eval o).run P w = .ok (.value (.agg cs)) w := by
  unfold execOp
  simp only [ho, hx]
  simp only [Sem.run_bind, hl, Result.andThen, Sem.run_pure]
theorem ld_ {P : Program} {ops : Array Oper} {rest : List Oper} {o : Oper} {a : Act} {Q : Exit → Act → World → Prop} {W : World} {t : TypeId} {b : Tmp} {g : Nat} {cs : Array Value} {d : TypeDesc} (hu : P.underlying t = some d) (ho : o.op = .load t (.tmp b)) (hgd : o.guard = none)
    (hx : a.eval (.tmp b) = .pointer (some ⟨g, 0, none⟩)) (hb : W.heap[g]? = some (.cells cs t (0, 0))) (hd : (match d with | .struct _ | .array _ _ => true | _ => false) = true) (hi : (P.info? t).map (·.size) = some cs.size)
    (h : wpList P ops Q rest (a.put o.dst (.agg cs)) W) : wpList P ops Q (o :: rest) a W := by
  refine Kd.event_run hgd (ldx_ ho hx ?_) h
  have := ld_of_cells (P := P) (w := W) (g := g) (t := t) cs.toList (fun j v hv => by rw [cell_of_row W g j cs t (0, 0) hb]; simpa using hv) hu hd (by simpa using hi)
  simpa using this
theorem ldS_ {w : World} {g : Nat} {v0 v1 v2 v3 v4 v5 v6 v7 v8 v9 v10 v11 v12 v13 v14 v15 v16 v17 v18 v19 v20 v21 v22 v23 v24 : Value} (h : w.cell? ⟨g, 0, none⟩ = some v0 ∧ w.cell? ⟨g, 1, none⟩ = some v1 ∧ w.cell? ⟨g, 2, none⟩ = some v2 ∧ w.cell? ⟨g, 3, none⟩ = some v3 ∧ w.cell? ⟨g, 4, none⟩ = some v4 ∧ w.cell? ⟨g, 5, none⟩ = some v5 ∧ w.cell? ⟨g, 6, none⟩ = some v6 ∧ w.cell? ⟨g, 7, none⟩ = some v7 ∧ w.cell? ⟨g, 8, none⟩ = some v8 ∧ w.cell? ⟨g, 9, none⟩ = some v9 ∧ w.cell? ⟨g, 10, none⟩ = some v10 ∧ w.cell? ⟨g, 11, none⟩ = some v11 ∧ w.cell? ⟨g, 12, none⟩ = some v12 ∧ w.cell? ⟨g, 13, none⟩ = some v13 ∧ w.cell? ⟨g, 14, none⟩ = some v14 ∧ w.cell? ⟨g, 15, none⟩ = some v15 ∧ w.cell? ⟨g, 16, none⟩ = some v16 ∧ w.cell? ⟨g, 17, none⟩ = some v17 ∧ w.cell? ⟨g, 18, none⟩ = some v18 ∧ w.cell? ⟨g, 19, none⟩ = some v19 ∧ w.cell? ⟨g, 20, none⟩ = some v20 ∧ w.cell? ⟨g, 21, none⟩ = some v21 ∧ w.cell? ⟨g, 22, none⟩ = some v22 ∧ w.cell? ⟨g, 23, none⟩ = some v23 ∧ w.cell? ⟨g, 24, none⟩ = some v24) : (Instr.loadAt 27 (.pointer (some ⟨g, 0, none⟩))).run Tryd.prog w = .ok (.agg #[v0, v1, v2, v3, v4, v5, v6, v7, v8, v9, v10, v11, v12, v13, v14, v15, v16, v17, v18, v19, v20, v21, v22, v23, v24]) w := by
  obtain ⟨s0, s1, s2, s3, s4, s5, s6, s7, s8, s9, s10, s11, s12, s13, s14, s15, s16, s17, s18, s19, s20, s21, s22, s23, s24⟩ := h
  refine ld_of_cells [v0, v1, v2, v3, v4, v5, v6, v7, v8, v9, v10, v11, v12, v13, v14, v15, v16, v17, v18, v19, v20, v21, v22, v23, v24] (fun j v hv => ?_) Tryd.underlying27 rfl (by kernel_rfl)
  match j, hv with
  | 0, hv => exact (Option.some.inj hv) ▸ s0
  | 1, hv => exact (Option.some.inj hv) ▸ s1
  | 2, hv => exact (Option.some.inj hv) ▸ s2
  | 3, hv => exact (Option.some.inj hv) ▸ s3
  | 4, hv => exact (Option.some.inj hv) ▸ s4
  | 5, hv => exact (Option.some.inj hv) ▸ s5
  | 6, hv => exact (Option.some.inj hv) ▸ s6
  | 7, hv => exact (Option.some.inj hv) ▸ s7
  | 8, hv => exact (Option.some.inj hv) ▸ s8
  | 9, hv => exact (Option.some.inj hv) ▸ s9
  | 10, hv => exact (Option.some.inj hv) ▸ s10
  | 11, hv => exact (Option.some.inj hv) ▸ s11
  | 12, hv => exact (Option.some.inj hv) ▸ s12
  | 13, hv => exact (Option.some.inj hv) ▸ s13
  | 14, hv => exact (Option.some.inj hv) ▸ s14
  | 15, hv => exact (Option.some.inj hv) ▸ s15
  | 16, hv => exact (Option.some.inj hv) ▸ s16
  | 17, hv => exact (Option.some.inj hv) ▸ s17
  | 18, hv => exact (Option.some.inj hv) ▸ s18
  | 19, hv => exact (Option.some.inj hv) ▸ s19
  | 20, hv => exact (Option.some.inj hv) ▸ s20
  | 21, hv => exact (Option.some.inj hv) ▸ s21
  | 22, hv => exact (Option.some.inj hv) ▸ s22
  | 23, hv => exact (Option.some.inj hv) ▸ s23
  | 24, hv => exact (Option.some.inj hv) ▸ s24
  | (j + 25), hv => simp at hv
def nbL_ : Nat → Nat → List Bool
  | 0, _ => []
  | n + 1, m => (m % 2 == 1) :: nbL_ n (m / 2)
/-- The places that are done, as a number's bits. -/
def nb_ (n m : Nat) : Array Bool := ⟨nbL_ n m⟩
theorem bz_ {g : Nat} {w W : World} (hg : g = W.heap.size) (h : Below w.heap.size w W) : w.heap.size ≤ g := by rw [hg]; exact below_size h
theorem nl_ {W : World} {g k : Nat} {o : Obj} (hg : k = W.heap.size) (b : W.heap[g]? = some o) : g ≠ k := by rw [hg]; exact Nat.ne_of_lt (blk_lt b)
theorem ng_ {W : World} {g k : Nat} {o : Obj} (hg : k = W.heap.size) (b : W.heap[g]? = some o) : k ≠ g := by rw [hg]; exact Nat.ne_of_gt (blk_lt b)
theorem qe_ {a : Prop} (h : a := by first | rfl | (simp [errW_none, errW_some] <;> rfl) | (simp [*, errW_none, errW_some] <;> rfl)) : a := h
theorem qs_ {a : Prop} (h : a := by first | rfl | (simp; done) | (simp [*]; done)) : a := h
theorem pz_ {P : Program} {ops : Array Oper} {Q : Exit → Act → World → Prop} {md : Region.Mode} {S : World → Prop} {ds : List Nat} {T : Bool × List (List Nat × List Nat)} (i : Nat) (N : Tmp) {oi : Oper} {v : Value} {fuel : Nat} {l : Array Bool} {a : Act} {w : World} (l' : Array Bool) (hT : rtab md ops = T) {a' : Act}
    (h : wpAnyLast P md ops Q S ds fuel l' a' w) (hi : ops[i]? = some oi := by exact rfl) (hN : oi.dst = some N := by exact rfl) (hc : anyT T l.toList l'.toList i = true := by kernel_rfl)
    (hQ : ∀ c a w, Q (.panic c) (a.put oi.dst v) w → Q (.panic c) a w := by exact fun _ _ _ h => h) (h1 : Region.wanted oi (yielded ops a.tmps) = true := by rfl) (h2 : ∀ w', Sem.run P (execOp a.eval oi) w' = Result.ok (Next.value v) w' := by intro w'; go_simp; with_reducible rfl)
    (ha : a.put (some N) v = a' := by simp only [Act.put, List.setIfInBounds_toArray, List.set_cons_zero, List.set_cons_succ, i64_w, i32_w]; rfl) : wpAnyLast P md ops Q S ds (fuel + 1) l a w :=
  pure_ l' hi hN (any_of hT hc) hQ (Or.inl ⟨h1, h2⟩) ha h
theorem pu_ {P : Program} {ops : Array Oper} {Q : Exit → Act → World → Prop} {md : Region.Mode} {S : World → Prop} {ds : List Nat} {T : Bool × List (List Nat × List Nat)} (i : Nat) (N : Tmp) {oi : Oper} {fuel : Nat} {l : Array Bool} {a : Act} {w : World} (l' : Array Bool) (hT : rtab md ops = T) {a' : Act}
    (h : wpAnyLast P md ops Q S ds fuel l' a' w) (hi : ops[i]? = some oi := by exact rfl) (hN : oi.dst = some N := by exact rfl) (hc : anyT T l.toList l'.toList i = true := by kernel_rfl)
    (hQ : ∀ c a w, Q (.panic c) (a.put oi.dst undef) w → Q (.panic c) a w := by exact fun _ _ _ h => h) (h1 : Region.wanted oi (yielded ops a.tmps) = false := by rfl)
    (ha : a.put (some N) undef = a' := by simp only [Act.put, List.setIfInBounds_toArray, List.set_cons_zero, List.set_cons_succ, i64_w, i32_w]; rfl) : wpAnyLast P md ops Q S ds (fuel + 1) l a w :=
  pure_ l' hi hN (any_of hT hc) hQ (Or.inr ⟨h1, rfl⟩) ha h
theorem qo_ {a : Prop} (h : a := by first | omega | exact Nat.le_refl _) : a := h
def Cs_ (_ : Array Value) (_ : Nat) : Prop := True
theorem bp_ {w : World} {g : Nat} {t : TypeId} {cs cs' : Array Value} {i : Nat} (_ : Cs_ cs i) (h : w.heap[g]? = some (.cells cs t (0, 0))) (u : Value) (e : cs.setIfInBounds i u = cs') : (w.setCell ⟨g, i, none⟩ u).heap[g]? = some (.cells cs' t (0, 0)) := blk_put h i u e
theorem qff_ {a b c0 c1 : Prop} (g0 : c0) (g1 : c1) (h : b) (f : c0 → c1 → b → a := by intro h0_ h1_ hq_; (with_reducible repeat (first | refine blk_drewN ?_ _ | refine blk_drew ?_ | refine blk_alloc ?_ _)); refine blk_far ?_ h0_ _; (with_reducible repeat (first | refine blk_drewN ?_ _ | refine blk_drew ?_ | refine blk_alloc ?_ _)); refine blk_far ?_ h1_ _; (with_reducible repeat (first | refine blk_drewN ?_ _ | refine blk_drew ?_ | refine blk_alloc ?_ _)); exact hq_) : a := f g0 g1 h
theorem qpp_ {a b  : Prop} (s0 : Array Value) (i0 : Nat) (s1 : Array Value) (i1 : Nat) (h : b) (f : Cs_ s0 i0 → Cs_ s1 i1 → b → a := by intro h0_ h1_ hq_; (with_reducible repeat (first | refine blk_drewN ?_ _ | refine blk_drew ?_ | refine blk_alloc ?_ _)); refine bp_ h0_ ?_ _ rfl; (with_reducible repeat (first | refine blk_drewN ?_ _ | refine blk_drew ?_ | refine blk_alloc ?_ _)); refine bp_ h1_ ?_ _ rfl; (with_reducible repeat (first | refine blk_drewN ?_ _ | refine blk_drew ?_ | refine blk_alloc ?_ _)); exact hq_) : a := f trivial trivial h
theorem qppff_ {a b c2 c3 : Prop} (s0 : Array Value) (i0 : Nat) (s1 : Array Value) (i1 : Nat) (g2 : c2) (g3 : c3) (h : b) (f : Cs_ s0 i0 → Cs_ s1 i1 → c2 → c3 → b → a := by intro h0_ h1_ h2_ h3_ hq_; (with_reducible repeat (first | refine blk_drewN ?_ _ | refine blk_drew ?_ | refine blk_alloc ?_ _)); refine bp_ h0_ ?_ _ rfl; (with_reducible repeat (first | refine blk_drewN ?_ _ | refine blk_drew ?_ | refine blk_alloc ?_ _)); refine bp_ h1_ ?_ _ rfl; (with_reducible repeat (first | refine blk_drewN ?_ _ | refine blk_drew ?_ | refine blk_alloc ?_ _)); refine blk_far ?_ h2_ _; (with_reducible repeat (first | refine blk_drewN ?_ _ | refine blk_drew ?_ | refine blk_alloc ?_ _)); refine blk_far ?_ h3_ _; (with_reducible repeat (first | refine blk_drewN ?_ _ | refine blk_drew ?_ | refine blk_alloc ?_ _)); exact hq_) : a := f trivial trivial g2 g3 h
theorem qffff_ {a b c0 c1 c2 c3 : Prop} (g0 : c0) (g1 : c1) (g2 : c2) (g3 : c3) (h : b) (f : c0 → c1 → c2 → c3 → b → a := by intro h0_ h1_ h2_ h3_ hq_; (with_reducible repeat (first | refine blk_drewN ?_ _ | refine blk_drew ?_ | refine blk_alloc ?_ _)); refine blk_far ?_ h0_ _; (with_reducible repeat (first | refine blk_drewN ?_ _ | refine blk_drew ?_ | refine blk_alloc ?_ _)); refine blk_far ?_ h1_ _; (with_reducible repeat (first | refine blk_drewN ?_ _ | refine blk_drew ?_ | refine blk_alloc ?_ _)); refine blk_far ?_ h2_ _; (with_reducible repeat (first | refine blk_drewN ?_ _ | refine blk_drew ?_ | refine blk_alloc ?_ _)); refine blk_far ?_ h3_ _; (with_reducible repeat (first | refine blk_drewN ?_ _ | refine blk_drew ?_ | refine blk_alloc ?_ _)); exact hq_) : a := f g0 g1 g2 g3 h
theorem qfff_ {a b c0 c1 c2 : Prop} (g0 : c0) (g1 : c1) (g2 : c2) (h : b) (f : c0 → c1 → c2 → b → a := by intro h0_ h1_ h2_ hq_; (with_reducible repeat (first | refine blk_drewN ?_ _ | refine blk_drew ?_ | refine blk_alloc ?_ _)); refine blk_far ?_ h0_ _; (with_reducible repeat (first | refine blk_drewN ?_ _ | refine blk_drew ?_ | refine blk_alloc ?_ _)); refine blk_far ?_ h1_ _; (with_reducible repeat (first | refine blk_drewN ?_ _ | refine blk_drew ?_ | refine blk_alloc ?_ _)); refine blk_far ?_ h2_ _; (with_reducible repeat (first | refine blk_drewN ?_ _ | refine blk_drew ?_ | refine blk_alloc ?_ _)); exact hq_) : a := f g0 g1 g2 h
theorem qffpp_ {a b c0 c1 : Prop} (g0 : c0) (g1 : c1) (s2 : Array Value) (i2 : Nat) (s3 : Array Value) (i3 : Nat) (h : b) (f : c0 → c1 → Cs_ s2 i2 → Cs_ s3 i3 → b → a := by intro h0_ h1_ h2_ h3_ hq_; (with_reducible repeat (first | refine blk_drewN ?_ _ | refine blk_drew ?_ | refine blk_alloc ?_ _)); refine blk_far ?_ h0_ _; (with_reducible repeat (first | refine blk_drewN ?_ _ | refine blk_drew ?_ | refine blk_alloc ?_ _)); refine blk_far ?_ h1_ _; (with_reducible repeat (first | refine blk_drewN ?_ _ | refine blk_drew ?_ | refine blk_alloc ?_ _)); refine bp_ h2_ ?_ _ rfl; (with_reducible repeat (first | refine blk_drewN ?_ _ | refine blk_drew ?_ | refine blk_alloc ?_ _)); refine bp_ h3_ ?_ _ rfl; (with_reducible repeat (first | refine blk_drewN ?_ _ | refine blk_drew ?_ | refine blk_alloc ?_ _)); exact hq_) : a := f g0 g1 trivial trivial h
theorem be_ {P : Program} {ops : Array Oper} {Q : Exit → Act → World → Prop} {o : Oper} {rest : List Oper} {a : Act} {W : World} {N : Tmp} {cs : Array Value} {t : TypeId}
    (h : ∀ g, g = W.heap.size → ∀ w1, w1.heap[g]? = some (.cells cs t (0, 0)) → Below W.heap.size W w1 → wpList P ops Q rest (a.put o.dst (.pointer (some ⟨g, 0, none⟩))) w1)
    (hd : o.dst = some N := by exact rfl) (hg : o.guard = none := by exact rfl) (hr : (execOp a.eval o).run P W = .ok (.value (.pointer (some ⟨W.heap.size, 0, none⟩))) (W.alloc (.cells cs t (0, 0))) := by first | (go_simp; done) | (go_simp; rfl)) : wpList P ops Q (o :: rest) a W := box_event hg hd hr h
theorem no_ {P : Program} {ops : Array Oper} {Q : Exit → Act → World → Prop} {md : Region.Mode} {S : World → Prop} {ds : List Nat} {fuel : Nat} {l : Array Bool} {a a' : Act} {w : World} (h : wpAnyLast P md ops Q S ds fuel l a' w)
    (ha : a = a' := by show Act.put _ (some _) _ = _; simp only [Act.put, List.setIfInBounds_toArray, List.set_cons_zero, List.set_cons_succ, i64_w, i32_w]; rfl) : wpAnyLast P md ops Q S ds fuel l a w := norm_ ha h
theorem on_ {P : Program} {ops : Array Oper} {Q : Exit → Act → World → Prop} {md : Region.Mode} {S : World → Prop} {ds : List Nat} {T : Bool × List (List Nat × List Nat)} (i : Nat) (N : Tmp) {oi : Oper} {fuel : Nat} {l : Array Bool} {a : Act} {w : World} (l' : Array Bool) (hT : rtab md ops = T)
    (h : ∀ K : Act → World → Prop, Shut (∀ a' w', S w' → (S w' → wpAnyLast P md ops Q S ds fuel l' a' w') → K a' w') → if Region.wanted oi (yielded ops a.tmps) = true then Oper.wp P oi a w K Q else K (a.put (some N) undef) w)
    (hi : ops[i]? = some oi := by exact rfl) (hN : oi.dst = some N := by exact rfl) (hc : (readyT T.2 l.toList == [i] && l.toList.set i true == l'.toList) = true := by kernel_rfl) (hd : i ∉ ds := by decide) : wpAnyLast P md ops Q S ds (fuel + 1) l a w :=
  one_ l' hi hN (one_of hT hc) hd h
theorem tk2_ {P : Program} {ops : Array Oper} {Q : Exit → Act → World → Prop} {md : Region.Mode} {S : World → Prop} {ds : List Nat} {T : Bool × List (List Nat × List Nat)} {B : List Nat} (i : Nat) (N : Tmp) {oi : Oper} {v : Value} {fuel : Nat} {l : Array Bool} {a : Act} {w : World} (l' : Array Bool) (hT : rtab md ops = T) (hB : waitsOk T.2 B = true) (hS : S w) {a' : Act}
    (h : wpAnyLast P md ops Q S ds fuel l' a' w) (hi : ops[i]? = some oi := by exact rfl) (hN : oi.dst = some N := by exact rfl) (hc : takeW T B ds l.toList l'.toList i = true := by kernel_rfl)
    (hQ : ∀ c a w, Q (.panic c) (a.put oi.dst v) w → Q (.panic c) a w := by exact fun _ _ _ h => h) (h1 : Region.wanted oi (yielded ops a.tmps) = true := by rfl) (h2 : ∀ w', S w' → Sem.run P (execOp a.eval oi) w' = Result.ok (Next.value v) w' := by rintro w' ⟨s0, s1⟩; go_simp; with_reducible rfl)
    (ha : a.put (some N) v = a' := by simp only [Act.put, List.setIfInBounds_toArray, List.set_cons_zero, List.set_cons_succ, i64_w, i32_w]; rfl) : wpAnyLast P md ops Q S ds (fuel + 1) l a w :=
  take_ l' hi hN (take_ofW hT hB hc) hQ (Or.inl ⟨h1, h2⟩) hS ha h
theorem tk4_ {P : Program} {ops : Array Oper} {Q : Exit → Act → World → Prop} {md : Region.Mode} {S : World → Prop} {ds : List Nat} {T : Bool × List (List Nat × List Nat)} {B : List Nat} (i : Nat) (N : Tmp) {oi : Oper} {v : Value} {fuel : Nat} {l : Array Bool} {a : Act} {w : World} (l' : Array Bool) (hT : rtab md ops = T) (hB : waitsOk T.2 B = true) (hS : S w) {a' : Act}
    (h : wpAnyLast P md ops Q S ds fuel l' a' w) (hi : ops[i]? = some oi := by exact rfl) (hN : oi.dst = some N := by exact rfl) (hc : takeW T B ds l.toList l'.toList i = true := by kernel_rfl)
    (hQ : ∀ c a w, Q (.panic c) (a.put oi.dst v) w → Q (.panic c) a w := by exact fun _ _ _ h => h) (h1 : Region.wanted oi (yielded ops a.tmps) = true := by rfl) (h2 : ∀ w', S w' → Sem.run P (execOp a.eval oi) w' = Result.ok (Next.value v) w' := by rintro w' ⟨s0, s1, s2, s3⟩; go_simp; with_reducible rfl)
    (ha : a.put (some N) v = a' := by simp only [Act.put, List.setIfInBounds_toArray, List.set_cons_zero, List.set_cons_succ, i64_w, i32_w]; rfl) : wpAnyLast P md ops Q S ds (fuel + 1) l a w :=
  take_ l' hi hN (take_ofW hT hB hc) hQ (Or.inl ⟨h1, h2⟩) hS ha h
theorem tk6_ {P : Program} {ops : Array Oper} {Q : Exit → Act → World → Prop} {md : Region.Mode} {S : World → Prop} {ds : List Nat} {T : Bool × List (List Nat × List Nat)} {B : List Nat} (i : Nat) (N : Tmp) {oi : Oper} {v : Value} {fuel : Nat} {l : Array Bool} {a : Act} {w : World} (l' : Array Bool) (hT : rtab md ops = T) (hB : waitsOk T.2 B = true) (hS : S w) {a' : Act}
    (h : wpAnyLast P md ops Q S ds fuel l' a' w) (hi : ops[i]? = some oi := by exact rfl) (hN : oi.dst = some N := by exact rfl) (hc : takeW T B ds l.toList l'.toList i = true := by kernel_rfl)
    (hQ : ∀ c a w, Q (.panic c) (a.put oi.dst v) w → Q (.panic c) a w := by exact fun _ _ _ h => h) (h1 : Region.wanted oi (yielded ops a.tmps) = true := by rfl) (h2 : ∀ w', S w' → Sem.run P (execOp a.eval oi) w' = Result.ok (Next.value v) w' := by rintro w' ⟨s0, s1, s2, s3, s4, s5⟩; go_simp; with_reducible rfl)
    (ha : a.put (some N) v = a' := by simp only [Act.put, List.setIfInBounds_toArray, List.set_cons_zero, List.set_cons_succ, i64_w, i32_w]; rfl) : wpAnyLast P md ops Q S ds (fuel + 1) l a w :=
  take_ l' hi hN (take_ofW hT hB hc) hQ (Or.inl ⟨h1, h2⟩) hS ha h
theorem eqA23 (d : Nat) (w : World) (x0 y0 : Int) (x1 y1 : Int) (x2 y2 : Int) (x3 y3 : Int) (x4 y4 : Int) (x5 y5 : Int) (x6 y6 : Int) (x7 y7 : Int) (x8 y8 : Int) (x9 y9 : Int) (x10 y10 : ByteArray) (x11 y11 : ByteArray) :
    (Op.equalIn (d + 2) 23 (.agg #[.int .i64 x0, .int .i64 x1, .int .i64 x2, .int .i64 x3, .int .i64 x4, .int .i64 x5, .int .i64 x6, .int .i64 x7, .int .i64 x8, .int .i64 x9, .string x10, .string x11]) (.agg #[.int .i64 y0, .int .i64 y1, .int .i64 y2, .int .i64 y3, .int .i64 y4, .int .i64 y5, .int .i64 y6, .int .i64 y7, .int .i64 y8, .int .i64 y9, .string y10, .string y11])).run Tryd.prog w = .ok (x0 == y0 && (x1 == y1 && (x2 == y2 && (x3 == y3 && (x4 == y4 && (x5 == y5 && (x6 == y6 && (x7 == y7 && (x8 == y8 && (x9 == y9 && (x10.toList == y10.toList && (x11.toList == y11.toList)))))))))))) w := by
  refine eqA_of Tryd.underlying23 (by kernel_rfl) ?_
  refine eqf_cons (by rfl) (by go_simp; rfl) (by go_simp; rfl) (by go_simp) ?_
  refine eqf_cons (by rfl) (by go_simp; rfl) (by go_simp; rfl) (by go_simp) ?_
  refine eqf_cons (by rfl) (by go_simp; rfl) (by go_simp; rfl) (by go_simp) ?_
  refine eqf_cons (by rfl) (by go_simp; rfl) (by go_simp; rfl) (by go_simp) ?_
  refine eqf_cons (by rfl) (by go_simp; rfl) (by go_simp; rfl) (by go_simp) ?_
  refine eqf_cons (by rfl) (by go_simp; rfl) (by go_simp; rfl) (by go_simp) ?_
  refine eqf_cons (by rfl) (by go_simp; rfl) (by go_simp; rfl) (by go_simp) ?_
  refine eqf_cons (by rfl) (by go_simp; rfl) (by go_simp; rfl) (by go_simp) ?_
  refine eqf_cons (by rfl) (by go_simp; rfl) (by go_simp; rfl) (by go_simp) ?_
  refine eqf_cons (by rfl) (by go_simp; rfl) (by go_simp; rfl) (by go_simp) ?_
  refine eqf_cons (by rfl) (by go_simp; rfl) (by go_simp; rfl) (by go_simp) ?_
  exact eqf_last (by rfl) (by go_simp; rfl) (by go_simp; rfl) (by go_simp)
mutual
def corebankref37_Days.l0 : Nat → Int → Int → Int → Int → Int → Int → Int → Int → Int → Int → Int → Int → Int → Int → Int → Int → Int → Int → Int → Int → Int → Int → Int → Int → Int → ByteArray → ByteArray → List (S54) → List (S50) → Option (Int)
 | 0, _, _, _, _, _, _, _, _, _, _, _, _, _, _, _, _, _, _, _, _, _, _, _, _, _, _, _, _, _ => none
 | k + 1, x1, x5, x6, x7, x112000, x112001, x112002, x112003, x112004, x112005, x112006, x112007, x112008, x112009, x112010, x112011, x112012, x112013, x112014, x112015, x112016, x112017, x112018, x112019, x112020, x112021, x112022, x112023, x112024 => if x7 < (x112023.length : Int) then (if 0 ≤ x7 then (if ((rd_T54 x112023 x7).f1) ≤ x1 then (if x112003 < (wrap64 (x5 + ((rd_T54 x112023 x7).f2))) then (corebankref37_Days.j1 k x1 (wrap64 (x5 + ((rd_T54 x112023 x7).f2))) (wrap64 (x6 + ((rd_T54 x112023 x7).f3))) x7 true x112000 x112001 x112002 x112003 x112004 x112005 x112006 x112007 x112008 x112009 x112010 x112011 x112012 x112013 x112014 x112015 x112016 x112017 x112018 x112019 x112020 x112021 x112022 x112023 x112024 ((rd_T54 x112023 x7).f0) ((rd_T54 x112023 x7).f1) ((rd_T54 x112023 x7).f2) ((rd_T54 x112023 x7).f3)) else (corebankref37_Days.j1 k x1 (wrap64 (x5 + ((rd_T54 x112023 x7).f2))) (wrap64 (x6 + ((rd_T54 x112023 x7).f3))) x7 (decide (x112004 < (wrap64 (x6 + ((rd_T54 x112023 x7).f3))))) x112000 x112001 x112002 x112003 x112004 x112005 x112006 x112007 x112008 x112009 x112010 x112011 x112012 x112013 x112014 x112015 x112016 x112017 x112018 x112019 x112020 x112021 x112022 x112023 x112024 ((rd_T54 x112023 x7).f0) ((rd_T54 x112023 x7).f1) ((rd_T54 x112023 x7).f2) ((rd_T54 x112023 x7).f3))) else (corebankref37_Days.j1 k x1 (wrap64 (x5 + ((rd_T54 x112023 x7).f2))) (wrap64 (x6 + ((rd_T54 x112023 x7).f3))) x7 false x112000 x112001 x112002 x112003 x112004 x112005 x112006 x112007 x112008 x112009 x112010 x112011 x112012 x112013 x112014 x112015 x112016 x112017 x112018 x112019 x112020 x112021 x112022 x112023 x112024 ((rd_T54 x112023 x7).f0) ((rd_T54 x112023 x7).f1) ((rd_T54 x112023 x7).f2) ((rd_T54 x112023 x7).f3))) else (none)) else (some 0)
def corebankref37_Days.j1 : Nat → Int → Int → Int → Int → Bool → Int → Int → Int → Int → Int → Int → Int → Int → Int → Int → Int → Int → Int → Int → Int → Int → Int → Int → Int → Int → Int → ByteArray → ByteArray → List (S54) → List (S50) → Int → Int → Int → Int → Option (Int)
 | 0, _, _, _, _, _, _, _, _, _, _, _, _, _, _, _, _, _, _, _, _, _, _, _, _, _, _, _, _, _, _, _, _, _, _ => none
 | k + 1, x1, x5, x6, x7, x44, x112000, x112001, x112002, x112003, x112004, x112005, x112006, x112007, x112008, x112009, x112010, x112011, x112012, x112013, x112014, x112015, x112016, x112017, x112018, x112019, x112020, x112021, x112022, x112023, x112024, x114000, x114001, x114002, x114003 => if x44 = true then (some (wrap64 (x1 - x114001))) else (corebankref37_Days.l0 k x1 x5 x6 (wrap64 (x7 + 1)) x112000 x112001 x112002 x112003 x112004 x112005 x112006 x112007 x112008 x112009 x112010 x112011 x112012 x112013 x112014 x112015 x112016 x112017 x112018 x112019 x112020 x112021 x112022 x112023 x112024)
end
def corebankref37_Days.f (k : Nat) (a0_0 a0_1 a0_2 a0_3 a0_4 a0_5 a0_6 a0_7 a0_8 a0_9 a0_10 a0_11 a0_12 a0_13 a0_14 a0_15 a0_16 a0_17 a0_18 a0_19 a0_20 : Int) (a0_21 a0_22 : ByteArray) (l0_23 : List (S54)) (l0_24 : List (S50)) (a1 : Int) : Option (Int) := corebankref37_Days.l0 k a1 0 0 0 a0_0 a0_1 a0_2 a0_3 a0_4 a0_5 a0_6 a0_7 a0_8 a0_9 a0_10 a0_11 a0_12 a0_13 a0_14 a0_15 a0_16 a0_17 a0_18 a0_19 a0_20 a0_21 a0_22 l0_23 l0_24
set_option maxHeartbeats 8000000 in
set_option maxRecDepth 100000 in
theorem corebankref37_Days.calls (k : Nat) (a0_0 a0_1 a0_2 a0_3 a0_4 a0_5 a0_6 a0_7 a0_8 a0_9 a0_10 a0_11 a0_12 a0_13 a0_14 a0_15 a0_16 a0_17 a0_18 a0_19 a0_20 : Int) (a0_21 a0_22 : ByteArray) (A0_23 : Option Addr) (c0_23 : Nat) (l0_23 : List (S54)) (A0_24 : Option Addr) (c0_24 : Nat) (l0_24 : List (S50)) (a1 r : Int) (w : World) (hr0_23 : Kd.C k54 w A0_23 l0_23.length l0_23) (hc0_23 : l0_23.length ≤ c0_23) (hr0_24 : Kd.C k50 w A0_24 l0_24.length l0_24) (hc0_24 : l0_24.length ≤ c0_24) (h : corebankref37_Days.f k a0_0 a0_1 a0_2 a0_3 a0_4 a0_5 a0_6 a0_7 a0_8 a0_9 a0_10 a0_11 a0_12 a0_13 a0_14 a0_15 a0_16 a0_17 a0_18 a0_19 a0_20 a0_21 a0_22 l0_23 l0_24 a1 = some r) :
  Calls Tryd.prog 28 #[.agg #[.int .i64 a0_0, .int .i64 a0_1, .int .i64 a0_2, .int .i64 a0_3, .int .i64 a0_4, .int .i64 a0_5, .int .i64 a0_6, .int .i64 a0_7, .int .i64 a0_8, .int .i64 a0_9, .int .i64 a0_10, .int .i64 a0_11, .int .i64 a0_12, .int .i64 a0_13, .int .i64 a0_14, .int .i64 a0_15, .int .i64 a0_16, .int .i64 a0_17, .int .i64 a0_18, .int .i64 a0_19, .int .i64 a0_20, .string a0_21, .string a0_22, .slice A0_23 l0_23.length c0_23, .slice A0_24 l0_24.length c0_24], .int .i64 a1] w fun e w' => e = .returned (.int .i64 r) ∧ Below w.heap.size w w' := by
 have hu27 := Tryd.underlying27
 have hu54 := Tryd.underlying54
 have HR0_23 := Aside0.mk hr0_23
 have HC0_23 := Aside0.mk hc0_23
 clear hr0_23 hc0_23
 have HR0_24 := Aside0.mk hr0_24
 have HC0_24 := Aside0.mk hc0_24
 clear hr0_24 hc0_24
 have HB := Aside0.mk (Below.refl w.heap.size w)
 have H : (corebankref37_Days.l0 k a1 0 0 0 a0_0 a0_1 a0_2 a0_3 a0_4 a0_5 a0_6 a0_7 a0_8 a0_9 a0_10 a0_11 a0_12 a0_13 a0_14 a0_15 a0_16 a0_17 a0_18 a0_19 a0_20 a0_21 a0_22 l0_23 l0_24) = some r := h
 clear h
 have H' := Aside0.mk H
 clear H
 go_enter Tryd.func28, Tryd.ntmps28
 go_wp2_with (first | ((with_reducible refine gate_load_ (t := 27) rfl ?_); refine ld_ (t := 27) (cs := ?cs_) Tryd.underlying27 rfl rfl rfl ?hb_ rfl ?hi_ ?_; (case hb_ => (repeat (first | (with_reducible first | refine blk_drewN ?_ _ | refine blk_drew ?_ | refine blk_alloc ?_ _) | refine blk_far ?_ NB111_113.out _ | refine blk_set ?_ _ _)); (with_reducible first | exact BK111.out)); (case hi_ => kernel_rfl)) | ((with_reducible refine gate_dst (N := 2) rfl ?_); refine be_ (N := 2) (cs := #[.int .i64 a0_0, .int .i64 a0_1, .int .i64 a0_2, .int .i64 a0_3, .int .i64 a0_4, .int .i64 a0_5, .int .i64 a0_6, .int .i64 a0_7, .int .i64 a0_8, .int .i64 a0_9, .int .i64 a0_10, .int .i64 a0_11, .int .i64 a0_12, .int .i64 a0_13, .int .i64 a0_14, .int .i64 a0_15, .int .i64 a0_16, .int .i64 a0_17, .int .i64 a0_18, .int .i64 a0_19, .int .i64 a0_20, .string a0_21, .string a0_22, .slice A0_23 l0_23.length c0_23, .slice A0_24 l0_24.length c0_24]) (t := 27) ?_; intro gb111 hg w3 hbox hb; have n0_ := Aside0.mk (below_step (qb_ HB.out) hb); have n1_ := Aside0.mk (hbox); have n2_ := Aside0.mk (bz_ hg (qb_ HB.out) : w.heap.size ≤ gb111); have n3_ := n2_; clear HB; have HB := n0_; have BK111 := n1_; have GW111 := n2_; have GE111 := n3_; clear n0_ n1_ n2_ n3_; clear hb hbox hg))
 go_loopg [5, 6, 7] k (fun kq v5 v6 v7 w' => ∃ (x5_1 x6_1 x7_1 : Int), v5 = .int .i64 x5_1 ∧ v6 = .int .i64 x6_1 ∧ v7 = .int .i64 x7_1 ∧ Aside0 (corebankref37_Days.l0 kq a1 x5_1 x6_1 x7_1 a0_0 a0_1 a0_2 a0_3 a0_4 a0_5 a0_6 a0_7 a0_8 a0_9 a0_10 a0_11 a0_12 a0_13 a0_14 a0_15 a0_16 a0_17 a0_18 a0_19 a0_20 a0_21 a0_22 l0_23 l0_24 = some r) ∧ Aside0 (kq ≤ k) ∧ Aside0 (w'.heap[gb111]? = some (.cells #[.int .i64 a0_0, .int .i64 a0_1, .int .i64 a0_2, .int .i64 a0_3, .int .i64 a0_4, .int .i64 a0_5, .int .i64 a0_6, .int .i64 a0_7, .int .i64 a0_8, .int .i64 a0_9, .int .i64 a0_10, .int .i64 a0_11, .int .i64 a0_12, .int .i64 a0_13, .int .i64 a0_14, .int .i64 a0_15, .int .i64 a0_16, .int .i64 a0_17, .int .i64 a0_18, .int .i64 a0_19, .int .i64 a0_20, .string a0_21, .string a0_22, (.slice A0_23 l0_23.length c0_23), (.slice A0_24 l0_24.length c0_24)] 27 (0, 0))) ∧ Aside0 (Below w.heap.size w w'))
 case atStart => exact ⟨(0), (0), (0), qs_, qs_, qs_, H', ⟨Nat.le_refl _⟩, ⟨qk_ BK111.out⟩, ⟨qb1_ GE111.out HB.out⟩⟩
 case round =>
  clear H'
  try clear c2
  try clear p2
  obtain ⟨x5_1, x6_1, x7_1, rfl, rfl, rfl, HA, HK1, BK111, HB⟩ := hrel
  cases gk with
  | zero => exact absurd HA.out (by simp [corebankref37_Days.l0])
  | succ k1 =>
   have H := HA.out
   clear HA
   simp only [corebankref37_Days.l0] at H
   by_cases c4 : x7_1 < (l0_23.length : Int)
   ·rw [if_pos c4] at H
    have c4b0 : decide (x7_1 < (l0_23.length : Int)) = true := decide_eq_true c4
    clear c4
    by_cases c5 : 0 ≤ x7_1
    ·rw [if_pos c5] at H
     have c5b0 : decide (0 ≤ x7_1) = true := decide_eq_true c5
     clear c5
     have HC6 := Aside0.mk H
     clear H
     obtain ⟨Z7_0, Z7_1, Z7_2, Z7_3, Z7_4, Z7_5, Z7_6, Z7_7, Z7_8, Z7_9, Z7_10, Z7_11, Z7_12, Z7_13, Z7_14, Z7_15, Z7_16, Z7_17, Z7_18, Z7_19, Z7_20, Z7_21, Z7_22, Z7_23, Z7_24, Y7_0, Y7_1, Y7_2, Y7_3, Y7_4, Y7_5, Y7_6, Y7_7, Y7_8, Y7_9, Y7_10, Y7_11, Y7_12, Y7_13, Y7_14, Y7_15, Y7_16, Y7_17, Y7_18, Y7_19, Y7_20, Y7_21, Y7_22, Y7_23, Y7_24⟩ := cz25_ BK111.out
     have p112 : 0 ≤ (x7_1 : Int) := of_decide_eq_true (by first | (with_reducible assumption) | assumption)
     have q112 : x7_1 < (l0_23.length : Int) := of_decide_eq_true (by first | (with_reducible assumption) | assumption)
     obtain ⟨ad112, e112, hx112_0, hx112_1, hx112_2, hx112_3⟩ := at_T54 HR0_23.out x7_1 p112 q112
     cases e112
     replace hx112_0 := bx_ HB.out hx112_0
     replace hx112_1 := bx_ HB.out hx112_1
     replace hx112_2 := bx_ HB.out hx112_2
     replace hx112_3 := bx_ HB.out hx112_3
     replace p112 := eq_true p112
     replace q112 := eq_true q112
     go_upto_region 8 with (first | ((with_reducible refine gate_load_ (t := 27) rfl ?_); refine ld_ (t := 27) (cs := ?cs_) Tryd.underlying27 rfl rfl rfl ?hb_ rfl ?hi_ ?_; (case hb_ => (repeat (first | (with_reducible first | refine blk_drewN ?_ _ | refine blk_drew ?_ | refine blk_alloc ?_ _) | refine blk_far ?_ NB111_113.out _ | refine blk_set ?_ _ _)); (with_reducible first | exact BK111.out)); (case hi_ => kernel_rfl)) | ((with_reducible refine gate_dst (N := 8) rfl ?_); refine be_ (N := 8) (cs := #[.int .i64 0, .int .i64 0, .int .i64 0, .int .i64 0]) (t := 54) ?_; intro gb113 hg w8 hbox hb; have n0_ := Aside0.mk (blk_below (qk_ BK111.out) hb); have n1_ := Aside0.mk (below_step (qb1_ GE111.out HB.out) hb); have n2_ := Aside0.mk (hbox); have n3_ := Aside0.mk (bz_ hg (qb1_ GE111.out HB.out) : w.heap.size ≤ gb113); have n4_ := n3_; have n5_ := Aside0.mk (nl_ hg (qk_ BK111.out) : gb111 ≠ gb113); have n6_ := Aside0.mk (ng_ hg (qk_ BK111.out) : gb113 ≠ gb111); clear BK111; clear HB; have BK111 := n0_; have HB := n1_; have BK113 := n2_; have GW113 := n3_; have GE113 := n4_; have NB111_113 := n5_; have NB113_111 := n6_; clear n0_ n1_ n2_ n3_ n4_ n5_ n6_; clear hb hbox hg; have hnb9 := NB113_111.out; have hnc9 := NB111_113.out; obtain ⟨Z10_0, Z10_1, Z10_2, Z10_3, Y10_0, Y10_1, Y10_2, Y10_3⟩ := cz4_ BK113.out))
     (try simp only [Act.put, List.setIfInBounds_toArray, List.set_cons_zero, List.set_cons_succ])
     go_cut [44] (fun v44 wc => ∃ (kq : Nat) (x44_5 : Bool), v44 = .bool x44_5 ∧ Aside0 (corebankref37_Days.j1 kq a1 (wrap64 (x5_1 + ((rd_T54 l0_23 x7_1).f2))) (wrap64 (x6_1 + ((rd_T54 l0_23 x7_1).f3))) x7_1 x44_5 a0_0 a0_1 a0_2 a0_3 a0_4 a0_5 a0_6 a0_7 a0_8 a0_9 a0_10 a0_11 a0_12 a0_13 a0_14 a0_15 a0_16 a0_17 a0_18 a0_19 a0_20 a0_21 a0_22 l0_23 l0_24 ((rd_T54 l0_23 x7_1).f0) ((rd_T54 l0_23 x7_1).f1) ((rd_T54 l0_23 x7_1).f2) ((rd_T54 l0_23 x7_1).f3) = some r) ∧ Aside0 (kq ≤ k1) ∧ Aside0 (wc.heap[gb111]? = some (.cells #[.int .i64 a0_0, .int .i64 a0_1, .int .i64 a0_2, .int .i64 a0_3, .int .i64 a0_4, .int .i64 a0_5, .int .i64 a0_6, .int .i64 a0_7, .int .i64 a0_8, .int .i64 a0_9, .int .i64 a0_10, .int .i64 a0_11, .int .i64 a0_12, .int .i64 a0_13, .int .i64 a0_14, .int .i64 a0_15, .int .i64 a0_16, .int .i64 a0_17, .int .i64 a0_18, .int .i64 a0_19, .int .i64 a0_20, .string a0_21, .string a0_22, (.slice (some ad112) l0_23.length c0_23), (.slice A0_24 l0_24.length c0_24)] 27 (0, 0))) ∧ Aside0 (wc.heap[gb113]? = some (.cells #[.int .i64 ((rd_T54 l0_23 x7_1).f0), .int .i64 ((rd_T54 l0_23 x7_1).f1), .int .i64 ((rd_T54 l0_23 x7_1).f2), .int .i64 ((rd_T54 l0_23 x7_1).f3)] 54 (0, 0))) ∧ Aside0 (Below w.heap.size w wc))
     case first =>
      have H := HC6.out
      clear HC6
      by_cases c11 : ((rd_T54 l0_23 x7_1).f1) ≤ a1
      ·rw [if_pos c11] at H
       have c11b0 : decide (((rd_T54 l0_23 x7_1).f1) ≤ a1) = true := decide_eq_true c11
       clear c11
       (first | rw [c11b0] | (simp only [i64_w, i32_w]; rw [c11b0]) | skip)
       by_cases c12 : a0_3 < (wrap64 (x5_1 + ((rd_T54 l0_23 x7_1).f2)))
       ·rw [if_pos c12] at H
        have c12b0 : decide (a0_3 < (wrap64 (x5_1 + ((rd_T54 l0_23 x7_1).f2)))) = true := decide_eq_true c12
        clear c12
        have H' := Aside0.mk H
        clear H
        have hnb13 := NB113_111.out
        have hnc13 := NB111_113.out
        obtain ⟨Z14_0, Z14_1, Z14_2, Z14_3, Y14_0, Y14_1, Y14_2, Y14_3⟩ := cz4_ BK113.out
        obtain ⟨Z15_0, Z15_1, Z15_2, Z15_3, Z15_4, Z15_5, Z15_6, Z15_7, Z15_8, Z15_9, Z15_10, Z15_11, Z15_12, Z15_13, Z15_14, Z15_15, Z15_16, Z15_17, Z15_18, Z15_19, Z15_20, Z15_21, Z15_22, Z15_23, Z15_24, Y15_0, Y15_1, Y15_2, Y15_3, Y15_4, Y15_5, Y15_6, Y15_7, Y15_8, Y15_9, Y15_10, Y15_11, Y15_12, Y15_13, Y15_14, Y15_15, Y15_16, Y15_17, Y15_18, Y15_19, Y15_20, Y15_21, Y15_22, Y15_23, Y15_24⟩ := cz25_ BK111.out
        go_wp2
        go_meet
        case rel => exact ⟨_, (true), qs_, H', ⟨by have := HK1.out; first | omega | exact Nat.le_refl _⟩, ⟨qffff_ NB111_113.out NB111_113.out NB111_113.out NB111_113.out BK111.out⟩, ⟨by (with_reducible repeat (first | refine blk_drewN ?_ _ | refine blk_drew ?_ | refine blk_alloc ?_ _)); refine blk_put (cs := #[.int .i64 ((rd_T54 l0_23 x7_1).f0), .int .i64 ((rd_T54 l0_23 x7_1).f1), .int .i64 ((rd_T54 l0_23 x7_1).f2), .int .i64 0]) ?_ 3 _ rfl; (with_reducible repeat (first | refine blk_drewN ?_ _ | refine blk_drew ?_ | refine blk_alloc ?_ _)); refine blk_put (cs := #[.int .i64 ((rd_T54 l0_23 x7_1).f0), .int .i64 ((rd_T54 l0_23 x7_1).f1), .int .i64 0, .int .i64 0]) ?_ 2 _ rfl; (with_reducible repeat (first | refine blk_drewN ?_ _ | refine blk_drew ?_ | refine blk_alloc ?_ _)); refine blk_put (cs := #[.int .i64 ((rd_T54 l0_23 x7_1).f0), .int .i64 0, .int .i64 0, .int .i64 0]) ?_ 1 _ rfl; (with_reducible repeat (first | refine blk_drewN ?_ _ | refine blk_drew ?_ | refine blk_alloc ?_ _)); refine blk_put (cs := #[.int .i64 0, .int .i64 0, .int .i64 0, .int .i64 0]) ?_ 0 _ rfl; (with_reducible repeat (first | refine blk_drewN ?_ _ | refine blk_drew ?_ | refine blk_alloc ?_ _)); exact BK113.out⟩, ⟨qb2_ GE111.out GE113.out HB.out⟩⟩
       ·rw [if_neg c12] at H
        have c12b0 : decide (a0_3 < (wrap64 (x5_1 + ((rd_T54 l0_23 x7_1).f2)))) = false := decide_eq_false c12
        clear c12
        have H' := Aside0.mk H
        clear H
        have hnb16 := NB113_111.out
        have hnc16 := NB111_113.out
        obtain ⟨Z17_0, Z17_1, Z17_2, Z17_3, Y17_0, Y17_1, Y17_2, Y17_3⟩ := cz4_ BK113.out
        obtain ⟨Z18_0, Z18_1, Z18_2, Z18_3, Z18_4, Z18_5, Z18_6, Z18_7, Z18_8, Z18_9, Z18_10, Z18_11, Z18_12, Z18_13, Z18_14, Z18_15, Z18_16, Z18_17, Z18_18, Z18_19, Z18_20, Z18_21, Z18_22, Z18_23, Z18_24, Y18_0, Y18_1, Y18_2, Y18_3, Y18_4, Y18_5, Y18_6, Y18_7, Y18_8, Y18_9, Y18_10, Y18_11, Y18_12, Y18_13, Y18_14, Y18_15, Y18_16, Y18_17, Y18_18, Y18_19, Y18_20, Y18_21, Y18_22, Y18_23, Y18_24⟩ := cz25_ BK111.out
        go_wp2
        go_meet
        case rel => exact ⟨_, (decide (a0_4 < (wrap64 (x6_1 + ((rd_T54 l0_23 x7_1).f3))))), qs_, H', ⟨by have := HK1.out; first | omega | exact Nat.le_refl _⟩, ⟨qffff_ NB111_113.out NB111_113.out NB111_113.out NB111_113.out BK111.out⟩, ⟨by (with_reducible repeat (first | refine blk_drewN ?_ _ | refine blk_drew ?_ | refine blk_alloc ?_ _)); refine blk_put (cs := #[.int .i64 ((rd_T54 l0_23 x7_1).f0), .int .i64 ((rd_T54 l0_23 x7_1).f1), .int .i64 ((rd_T54 l0_23 x7_1).f2), .int .i64 0]) ?_ 3 _ rfl; (with_reducible repeat (first | refine blk_drewN ?_ _ | refine blk_drew ?_ | refine blk_alloc ?_ _)); refine blk_put (cs := #[.int .i64 ((rd_T54 l0_23 x7_1).f0), .int .i64 ((rd_T54 l0_23 x7_1).f1), .int .i64 0, .int .i64 0]) ?_ 2 _ rfl; (with_reducible repeat (first | refine blk_drewN ?_ _ | refine blk_drew ?_ | refine blk_alloc ?_ _)); refine blk_put (cs := #[.int .i64 ((rd_T54 l0_23 x7_1).f0), .int .i64 0, .int .i64 0, .int .i64 0]) ?_ 1 _ rfl; (with_reducible repeat (first | refine blk_drewN ?_ _ | refine blk_drew ?_ | refine blk_alloc ?_ _)); refine blk_put (cs := #[.int .i64 0, .int .i64 0, .int .i64 0, .int .i64 0]) ?_ 0 _ rfl; (with_reducible repeat (first | refine blk_drewN ?_ _ | refine blk_drew ?_ | refine blk_alloc ?_ _)); exact BK113.out⟩, ⟨qb2_ GE111.out GE113.out HB.out⟩⟩
      ·rw [if_neg c11] at H
       have c11b0 : decide (((rd_T54 l0_23 x7_1).f1) ≤ a1) = false := decide_eq_false c11
       clear c11
       (first | rw [c11b0] | (simp only [i64_w, i32_w]; rw [c11b0]) | skip)
       have H' := Aside0.mk H
       clear H
       have hnb19 := NB113_111.out
       have hnc19 := NB111_113.out
       obtain ⟨Z20_0, Z20_1, Z20_2, Z20_3, Y20_0, Y20_1, Y20_2, Y20_3⟩ := cz4_ BK113.out
       go_wp2
       go_meet
       case rel => exact ⟨_, (false), qs_, H', ⟨by have := HK1.out; first | omega | exact Nat.le_refl _⟩, ⟨qffff_ NB111_113.out NB111_113.out NB111_113.out NB111_113.out BK111.out⟩, ⟨by (with_reducible repeat (first | refine blk_drewN ?_ _ | refine blk_drew ?_ | refine blk_alloc ?_ _)); refine blk_put (cs := #[.int .i64 ((rd_T54 l0_23 x7_1).f0), .int .i64 ((rd_T54 l0_23 x7_1).f1), .int .i64 ((rd_T54 l0_23 x7_1).f2), .int .i64 0]) ?_ 3 _ rfl; (with_reducible repeat (first | refine blk_drewN ?_ _ | refine blk_drew ?_ | refine blk_alloc ?_ _)); refine blk_put (cs := #[.int .i64 ((rd_T54 l0_23 x7_1).f0), .int .i64 ((rd_T54 l0_23 x7_1).f1), .int .i64 0, .int .i64 0]) ?_ 2 _ rfl; (with_reducible repeat (first | refine blk_drewN ?_ _ | refine blk_drew ?_ | refine blk_alloc ?_ _)); refine blk_put (cs := #[.int .i64 ((rd_T54 l0_23 x7_1).f0), .int .i64 0, .int .i64 0, .int .i64 0]) ?_ 1 _ rfl; (with_reducible repeat (first | refine blk_drewN ?_ _ | refine blk_drew ?_ | refine blk_alloc ?_ _)); refine blk_put (cs := #[.int .i64 0, .int .i64 0, .int .i64 0, .int .i64 0]) ?_ 0 _ rfl; (with_reducible repeat (first | refine blk_drewN ?_ _ | refine blk_drew ?_ | refine blk_alloc ?_ _)); exact BK113.out⟩, ⟨qb2_ GE111.out GE113.out HB.out⟩⟩
     case rest =>
      clear HC6
      try clear c1
      try clear p1
      try clear q1
      try clear hx1
      try clear c2
      try clear p2
      try clear c4
      try clear c4b0
      try clear c5
      try clear c5b0
      try clear p6
      try clear c9
      try clear c11
      try clear c11b0
      try clear p11
      try clear q11
      try clear hx11
      try clear c12
      try clear c12b0
      try clear c13
      try clear c16
      try clear c19
      (try clear Z10_0 Z10_1 Z10_2 Z10_3 Y10_0 Y10_1 Y10_2 Y10_3)
      (try clear Z14_0 Z14_1 Z14_2 Z14_3 Y14_0 Y14_1 Y14_2 Y14_3)
      (try clear Z15_0 Z15_1 Z15_10 Z15_11 Z15_12 Z15_13 Z15_14 Z15_15 Z15_16 Z15_17 Z15_18 Z15_19 Z15_2 Z15_20 Z15_21 Z15_22 Z15_23 Z15_24 Z15_3 Z15_4 Z15_5 Z15_6 Z15_7 Z15_8 Z15_9 Y15_0 Y15_1 Y15_10 Y15_11 Y15_12 Y15_13 Y15_14 Y15_15 Y15_16 Y15_17 Y15_18 Y15_19 Y15_2 Y15_20 Y15_21 Y15_22 Y15_23 Y15_24 Y15_3 Y15_4 Y15_5 Y15_6 Y15_7 Y15_8 Y15_9)
      (try clear Z17_0 Z17_1 Z17_2 Z17_3 Y17_0 Y17_1 Y17_2 Y17_3)
      (try clear Z18_0 Z18_1 Z18_10 Z18_11 Z18_12 Z18_13 Z18_14 Z18_15 Z18_16 Z18_17 Z18_18 Z18_19 Z18_2 Z18_20 Z18_21 Z18_22 Z18_23 Z18_24 Z18_3 Z18_4 Z18_5 Z18_6 Z18_7 Z18_8 Z18_9 Y18_0 Y18_1 Y18_10 Y18_11 Y18_12 Y18_13 Y18_14 Y18_15 Y18_16 Y18_17 Y18_18 Y18_19 Y18_2 Y18_20 Y18_21 Y18_22 Y18_23 Y18_24 Y18_3 Y18_4 Y18_5 Y18_6 Y18_7 Y18_8 Y18_9)
      (try clear Z20_0 Z20_1 Z20_2 Z20_3 Y20_0 Y20_1 Y20_2 Y20_3)
      (try clear Z7_0 Z7_1 Z7_10 Z7_11 Z7_12 Z7_13 Z7_14 Z7_15 Z7_16 Z7_17 Z7_18 Z7_19 Z7_2 Z7_20 Z7_21 Z7_22 Z7_23 Z7_24 Z7_3 Z7_4 Z7_5 Z7_6 Z7_7 Z7_8 Z7_9 Y7_0 Y7_1 Y7_10 Y7_11 Y7_12 Y7_13 Y7_14 Y7_15 Y7_16 Y7_17 Y7_18 Y7_19 Y7_2 Y7_20 Y7_21 Y7_22 Y7_23 Y7_24 Y7_3 Y7_4 Y7_5 Y7_6 Y7_7 Y7_8 Y7_9)
      try clear hx112_0
      try clear hx112_1
      try clear hx112_2
      try clear hx112_3
      try clear p112
      try clear p2
      try clear q112
      obtain ⟨kq, x44_5, rfl, HA, HJ5, BK111, BK113, HB⟩ := hcut
      cases kq with
      | zero => exact absurd HA.out (by simp [corebankref37_Days.j1])
      | succ kj5 =>
       have H := HA.out
       clear HA
       simp only [corebankref37_Days.j1] at H
       by_cases c21 : x44_5 = true
       ·subst c21
        have H1 : (some (wrap64 (a1 - ((rd_T54 l0_23 x7_1).f1)))) = some r := by rw [if_pos rfl] at H; exact H
        clear H
        have H := H1
        clear H1
        obtain rfl := Option.some.inj H
        have hnb22 := NB113_111.out
        have hnc22 := NB111_113.out
        obtain ⟨Z23_0, Z23_1, Z23_2, Z23_3, Y23_0, Y23_1, Y23_2, Y23_3⟩ := cz4_ BK113.out
        go_wp2
        go_ret
        exact ⟨qe_, qb2_ GE111.out GE113.out HB.out⟩
       ·replace c21 := Bool.eq_false_iff.mpr c21
        subst c21
        have H1 : (corebankref37_Days.l0 kj5 a1 (wrap64 (x5_1 + ((rd_T54 l0_23 x7_1).f2))) (wrap64 (x6_1 + ((rd_T54 l0_23 x7_1).f3))) (wrap64 (x7_1 + 1)) a0_0 a0_1 a0_2 a0_3 a0_4 a0_5 a0_6 a0_7 a0_8 a0_9 a0_10 a0_11 a0_12 a0_13 a0_14 a0_15 a0_16 a0_17 a0_18 a0_19 a0_20 a0_21 a0_22 l0_23 l0_24) = some r := by rw [if_neg (show ¬ (false = true) by decide)] at H; exact H
        clear H
        have H := H1
        clear H1
        have H' := Aside0.mk H
        clear H
        go_wp2
        go_roundg kj5
        case measure => have := HK1.out; have := HJ5.out; omega
        case rel => exact ⟨((wrap64 (x5_1 + ((rd_T54 l0_23 x7_1).f2)))), ((wrap64 (x6_1 + ((rd_T54 l0_23 x7_1).f3)))), (wrap64 (x7_1 + 1)), qs_, qs_, qs_, H', ⟨by have := HK1.out; have := HJ5.out; omega⟩, ⟨qk_ BK111.out⟩, ⟨qb2_ GE111.out GE113.out HB.out⟩⟩
    ·rw [if_neg c5] at H
     exact absurd H (by simp)
   ·rw [if_neg c4] at H
    have c4b0 : decide (x7_1 < (l0_23.length : Int)) = false := decide_eq_false c4
    clear c4
    obtain rfl := Option.some.inj H
    obtain ⟨Z24_0, Z24_1, Z24_2, Z24_3, Z24_4, Z24_5, Z24_6, Z24_7, Z24_8, Z24_9, Z24_10, Z24_11, Z24_12, Z24_13, Z24_14, Z24_15, Z24_16, Z24_17, Z24_18, Z24_19, Z24_20, Z24_21, Z24_22, Z24_23, Z24_24, Y24_0, Y24_1, Y24_2, Y24_3, Y24_4, Y24_5, Y24_6, Y24_7, Y24_8, Y24_9, Y24_10, Y24_11, Y24_12, Y24_13, Y24_14, Y24_15, Y24_16, Y24_17, Y24_18, Y24_19, Y24_20, Y24_21, Y24_22, Y24_23, Y24_24⟩ := cz25_ BK111.out
    go_wp2
    go_ret
    exact ⟨qe_, qb1_ GE111.out HB.out⟩
def arrears_Bucket.f (a0 : Int) : Option Int := some (if a0 ≤ 0 then 0 else if a0 ≤ 30 then 1 else if a0 ≤ 60 then 2 else if a0 ≤ 90 then 3 else 4)
set_option maxHeartbeats 4000000 in
set_option maxRecDepth 100000 in
theorem arrears_Bucket.calls (a0 r : Int) (w : World) (hG : GW w) (h : arrears_Bucket.f a0 = some r) :
  Calls Tryd.prog 25 #[.int .i64 a0] w fun e w' => e = .returned (.int .i64 r) ∧ Below w.heap.size w w' := by
 unfold arrears_Bucket.f at h
 injection h with h
 have HH := Aside0.mk h
 clear h
 have s0 : w.cell? ⟨0, 0, none⟩ = some (.int .i64 0) := hG.cl 0 (by decide)
 have s1 : w.cell? ⟨0, 1, none⟩ = some (.int .i64 30) := hG.cl 1 (by decide)
 have s2 : w.cell? ⟨0, 2, none⟩ = some (.int .i64 60) := hG.cl 2 (by decide)
 have s3 : w.cell? ⟨0, 3, none⟩ = some (.int .i64 90) := hG.cl 3 (by decide)
 clear hG
 have i0 : ∀ w : World, (Instr.index 52 (.agg #[.int .i64 0, .int .i64 30, .int .i64 60, .int .i64 90]) (.int .i64 0)).run Tryd.prog w = .ok (.int .i64 0) w := fun _ => by kernel_rfl
 have i1 : ∀ w : World, (Instr.index 52 (.agg #[.int .i64 0, .int .i64 30, .int .i64 60, .int .i64 90]) (.int .i64 1)).run Tryd.prog w = .ok (.int .i64 30) w := fun _ => by kernel_rfl
 have i2 : ∀ w : World, (Instr.index 52 (.agg #[.int .i64 0, .int .i64 30, .int .i64 60, .int .i64 90]) (.int .i64 2)).run Tryd.prog w = .ok (.int .i64 60) w := fun _ => by kernel_rfl
 have i3 : ∀ w : World, (Instr.index 52 (.agg #[.int .i64 0, .int .i64 30, .int .i64 60, .int .i64 90]) (.int .i64 3)).run Tryd.prog w = .ok (.int .i64 90) w := fun _ => by kernel_rfl
 go_enter Tryd.func25, Tryd.ntmps25
 go_wp2
 go_loop [6] (fun i => ∃ k : Nat, k ≤ 4 ∧ i = .int .i64 k ∧ (0 < k → 30 * ((k : Int) - 1) < a0)) (fun i => match i with | .int _ n => 4 - n.toNat | _ => 0)
 case atStart => exact ⟨0, Nat.zero_le _, rfl, fun h => absurd h (Nat.lt_irrefl 0)⟩
 case round =>
  obtain ⟨k, hk, rfl, hlt⟩ := hrel
  have fin : ∀ {x : Int}, x = r → (Ending.returned (.int .i64 x) = Ending.returned (.int .i64 r)) := by rintro x rfl; rfl
  rcases (by omega : k = 0 ∨ k = 1 ∨ k = 2 ∨ k = 3 ∨ k = 4) with rfl | rfl | rfl | rfl | rfl
  ·by_cases c : a0 ≤ 0
   ·have c' := decide_eq_true c
    go_wp2
    go_ret
    refine ⟨fin ?_, Below.refl _ _⟩
    rw [← HH.out, if_pos c]
   ·have c' := decide_eq_false c
    go_wp2
    exact ⟨⟨1, by omega, rfl, fun _ => by omega⟩, by decide⟩
  ·by_cases c : a0 ≤ 30
   ·have c' := decide_eq_true c
    go_wp2
    go_ret
    refine ⟨fin ?_, Below.refl _ _⟩
    rw [← HH.out, if_neg (by omega), if_pos c]
   ·have c' := decide_eq_false c
    go_wp2
    exact ⟨⟨2, by omega, rfl, fun _ => by omega⟩, by decide⟩
  ·by_cases c : a0 ≤ 60
   ·have c' := decide_eq_true c
    go_wp2
    go_ret
    refine ⟨fin ?_, Below.refl _ _⟩
    rw [← HH.out, if_neg (by omega), if_neg (by omega), if_pos c]
   ·have c' := decide_eq_false c
    go_wp2
    exact ⟨⟨3, by omega, rfl, fun _ => by omega⟩, by decide⟩
  ·by_cases c : a0 ≤ 90
   ·have c' := decide_eq_true c
    go_wp2
    go_ret
    refine ⟨fin ?_, Below.refl _ _⟩
    rw [← HH.out, if_neg (by omega), if_neg (by omega), if_neg (by omega), if_pos c]
   ·have c' := decide_eq_false c
    go_wp2
    exact ⟨⟨4, by omega, rfl, fun _ => by omega⟩, by decide⟩
  ·go_wp2
   go_ret
   refine ⟨fin ?_, Below.refl _ _⟩
   have := hlt (by omega)
   rw [← HH.out, if_neg (by omega), if_neg (by omega), if_neg (by omega), if_neg (by omega)]
end Go.Proofs.YtjkjiibhdpcpkaaDoor.PS
end
