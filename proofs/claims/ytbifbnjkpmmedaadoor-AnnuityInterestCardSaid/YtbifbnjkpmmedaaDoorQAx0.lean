import Derived.Test.YtbifbnjkpmmedaaDoorProg
import Derived.Below
import Derived.Deep.Draws
import Derived.Deep.AppendLies
import Derived.Maps.AppendAt
import Derived.OwnWalk
import Derived.Laws.BytesArg
import Derived.Laws.MakeOwn
import Derived.Laws.OwnMore
import Derived.Deep.OwnRows
import Derived.Tactics
import Derived.Lib.ConvBytes
import Derived.Laws.Slices
import Derived.WalkKit
import Derived.KernelRfl
import Derived.RowKit3
import Derived.Deep.LoopGhost
import Derived.Deep.QuietTactic
import Derived.BigQuiet
import Derived.WideLaws
import Derived.Deep.DeepCutAuto
import Derived.Deep.CutBlock
import Derived.Deep.RegionHeld3
import Derived.Laws.Rows
import Derived.Lib.AppendStr
import Derived.ArgAppend
import Derived.Laws.IdiomCopy
import Derived.OrdersHeld
import Derived.Laws.BitsLemmas
import Derived.RowKit
import Derived.Laws.Externs
import Derived.Laws.BitsAllLaws
import Derived.Laws.Bits64b
import Derived.Lib.Mul64
import Derived.Lib.Strings
import Derived.Lib.Slices
import Derived.Lib.Small
import Derived.Lib.Walk
import Derived.Lib.BitFns
import Derived.Deep.Light
import Derived.Test.YtbifbnjkpmmedaaDoorVWords
import Derived.Test.YtbifbnjkpmmedaaDoorVLast
import Derived.Test.YtbifbnjkpmmedaaDoorVTab
import Derived.Test.YtbifbnjkpmmedaaDoorVFour
import Derived.Test.YtbifbnjkpmmedaaDoorVQPut
import Derived.Test.YtbifbnjkpmmedaaDoorVApart
import Derived.Test.YtbifbnjkpmmedaaDoorVArr
import Derived.Test.YtbifbnjkpmmedaaDoorVZeros
import Derived.Test.YtbifbnjkpmmedaaDoorVFoot
import Derived.Test.YtbifbnjkpmmedaaDoorVKept
import Derived.Test.YtbifbnjkpmmedaaDoorVShare
import Derived.Test.YtbifbnjkpmmedaaDoorVN
import Derived.Test.YtbifbnjkpmmedaaDoorVFootNe
import Derived.Test.YtbifbnjkpmmedaaDoorVAt
import Derived.Test.YtbifbnjkpmmedaaDoorVEqStruct
import Derived.Test.YtbifbnjkpmmedaaDoorVRepsOne
import Derived.Test.YtbifbnjkpmmedaaDoorVInv
import Derived.Test.YtbifbnjkpmmedaaDoorVInvWords
import Derived.Test.YtbifbnjkpmmedaaDoorVGuard
import Derived.Test.YtbifbnjkpmmedaaDoorVNEv
import Derived.Test.YtbifbnjkpmmedaaDoorVMore
namespace Go.Proofs.YtbifbnjkpmmedaaDoor.PA
open Go.RowKit Go.Proofs.YtbifbnjkpmmedaaDoorW.PrintWords Go.Proofs.YtbifbnjkpmmedaaDoorW.PrintLast Go.Proofs.YtbifbnjkpmmedaaDoorW.PrintMore
attribute [local go_sem] max2_int max_two
set_option linter.unusedVariables false
set_option linter.unusedSimpArgs false
theorem qk_ {a b : Prop} (h : b) (f : b → a := by intro hq_; (with_reducible repeat (first | refine blk_drewN ?_ _ | refine blk_drew ?_ | refine blk_alloc ?_ _)); exact hq_) : a := f h
theorem qb_ {a b : Prop} (h : b) (f : b → a := by intro hq_; repeat (first | (with_reducible first | exact hq_ | apply below_alloc | apply pw_below_drewN | apply below_drew1) | exact hq_)) : a := f h
theorem ql_ {a : Prop} (h : a := by (try simp only [List.map_toArray, List.map_cons, List.map_nil]); first | done | rfl | (simp only [List.length_drop, List.length_take]; rfl)) : a := h
def errW : Option Int → Value
  | none => .nilIface
  | some c => .iface 0 (.int .i64 c)
theorem errW_none : errW none = .nilIface := rfl
theorem errW_some (c : Int) : errW (some c) = .iface 0 (.int .i64 c) := rfl
def inI (x : Int) : Prop := -9223372036854775808 ≤ x ∧ x ≤ 9223372036854775807
def inU (x : Int) : Prop := 0 ≤ x ∧ x ≤ 18446744073709551615
instance (x : Int) : Decidable (inI x) := by unfold inI; exact inferInstance
instance (x : Int) : Decidable (inU x) := by unfold inU; exact inferInstance
theorem notNat (b : Nat) (h : b < 18446744073709551616) : 18446744073709551615 ^^^ b = 18446744073709551615 - b := by
  have h1 := congrArg BitVec.toNat (BitVec.allOnes_xor (x := BitVec.ofNat 64 b))
  rw [BitVec.toNat_xor, BitVec.toNat_not, BitVec.toNat_allOnes, BitVec.toNat_ofNat, Nat.mod_eq_of_lt (by omega)] at h1
  simpa using h1
theorem xorMax (b : Int) (h0 : 0 ≤ b) (h1 : b ≤ 18446744073709551615) : bits BinOp.xor IntKind.u64 IntKind.u64.max b = 18446744073709551615 - b := by
  obtain ⟨b, rfl⟩ := Int.eq_ofNat_of_zero_le h0
  have e : IntKind.u64.max = ((18446744073709551615 : Nat) : Int) := by decide
  rw [e, u64_xor_nat _ _ (by omega) (by omega), notNat b (by omega)]
  omega
theorem xorM1 (a : Int) (h0 : -9223372036854775808 ≤ a) (h1 : a ≤ 9223372036854775807) : bits BinOp.xor IntKind.i64 (-1) a = -1 - a := by
  unfold bits
  have e : BitVec.ofInt 64 (-1) = BitVec.allOnes 64 := by decide
  have h2 : (BitVec.allOnes 64 ^^^ BitVec.ofInt 64 a).toNat = 18446744073709551615 - (BitVec.ofInt 64 a).toNat := by
    rw [BitVec.allOnes_xor, BitVec.toNat_not]
  have h3 : (BitVec.ofInt 64 a).toNat = (a % 18446744073709551616).toNat := by simp [BitVec.toNat_ofInt]
  show IntKind.i64.wrap ((BitVec.ofInt 64 (-1) ^^^ BitVec.ofInt 64 a).toNat : Int) = _
  rw [e, h2, h3, IntKind.wrap_i64]
  omega
def addLo (x y : Int) : Int := ((x.toNat : Int) + (y.toNat : Int)) % 18446744073709551616
def addHi (x y : Int) : Int := ((x.toNat : Int) + (y.toNat : Int)) / 18446744073709551616
theorem add64_run (x y : Int) (w : World) :
    (callFunc 55 #[.int .u64 x, .int .u64 y, .int .u64 0]).run Tryd.prog w = .ok (.value (.tuple #[.int .u64 (addLo x y), .int .u64 (addHi x y)])) w := by
  rw [run_callFunc_extern Tryd.func55 (by kernel_rfl) (by kernel_rfl) (by kernel_rfl) (e := add64Entry) (by kernel_rfl)]
  have e : (add64Entry #[.int .u64 x, .int .u64 y, .int .u64 0]).run Tryd.prog w = (add64Entry #[.int .u64 (x.toNat : Int), .int .u64 (y.toNat : Int), .int .u64 0]).run Tryd.prog w := rfl
  rw [e, run_add64 _ _ 0 (by omega) (by omega) (by omega) (by omega) w]
  simp only [Result.andThen, addLo, addHi, Int.add_zero]
def stepsL : List Int := [0, 0, 1, 0, 0, 1, 0, 0, 1, 1]
/-- WHAT THE LISTED PACKAGE-LEVEL VARIABLES HOLD, as the walks ask it. -/
structure GW (w : World) : Prop where
  spos : 0 < w.heap.size
  st : ∀ i, i < 10 → w.cell? ⟨0, i, none⟩ = some (.int .i64 (stepsL.getD i 0))
theorem GW.below {w w' : World} (h : GW w) (hb : Below w.heap.size w w') : GW w' where
  spos := Nat.lt_of_lt_of_le h.spos hb.size
  st := fun i hi => (hb.cell (p := ⟨0, i, none⟩) h.spos).trans (h.st i hi)
theorem GW.drewN {w : World} (h : GW w) (n : Nat) : GW (w.drewN n) := h.below (Drawn0.below ⟨⟨n, rfl⟩⟩)
theorem GW.drew {w : World} (h : GW w) : GW w.drew := h.below (Below.refl _ _).drew
/-- What is added to a quotient that was rounded down: 1 or 0. -/
def upB (neg odd : Bool) (r n m : Int) : Bool :=
  if m = 1 then neg else if m = 2 then !neg else if m = 3 then false else if m = 4 then true
  else if r > n - r then true else if r < n - r then false else if m = 6 then odd else !neg
/-- The rounded quotient. -/
def rq (a n m : Int) : Int := a / n + (if 0 < a % n ∧ upB (decide (a / n < 0)) (decide (a / n % 2 = 1)) (a % n) n m = true then 1 else 0)
theorem rq_ge (a n m : Int) : a / n ≤ rq a n m := by unfold rq; split <;> omega
theorem rq_le (a n m : Int) : rq a n m ≤ a / n + 1 := by unfold rq; split <;> omega
theorem upB_mono (neg odd : Bool) (r s n m : Int) (h : r ≤ s) (hu : upB neg odd r n m = true) : upB neg odd s n m = true := by
  unfold upB at *
  repeat' split at hu
  all_goals (repeat' split)
  all_goals first | assumption | omega | rfl | exact absurd hu (by decide)
theorem rq_mono {a b n m : Int} (hn : 0 < n) (h : a ≤ b) : rq a n m ≤ rq b n m := by
  have hq : a / n ≤ b / n := Int.ediv_le_ediv hn h
  by_cases e : a / n = b / n
  · have ha := Int.emod_add_mul_ediv a n
    have hb := Int.emod_add_mul_ediv b n
    rw [← e] at hb
    have hr : a % n ≤ b % n := by omega
    unfold rq
    rw [← e]
    by_cases c : 0 < a % n ∧ upB (decide (a / n < 0)) (decide (a / n % 2 = 1)) (a % n) n m = true
    · rw [if_pos c, if_pos ⟨by omega, upB_mono _ _ _ _ _ _ hr c.2⟩]; omega
    · rw [if_neg c]; split <;> omega
  · have h1 := rq_le a n m
    have h2 := rq_ge b n m
    omega
theorem rq_nonneg {a n m : Int} (hn : 0 < n) (h : 0 ≤ a) : 0 ≤ rq a n m := by
  have := rq_ge a n m
  have h2 : 0 ≤ a / n := Int.ediv_nonneg h (by omega)
  omega
/-- An exact quotient is not rounded. -/
theorem rq_exact (q n m : Int) (hn : 0 < n) : rq (q * n) n m = q := by
  unfold rq
  rw [Int.mul_ediv_cancel _ (by omega)]
  simp
theorem rq_le_of {a n m q : Int} (hn : 0 < n) (h : a ≤ q * n) : rq a n m ≤ q := by
  have := rq_mono (m := m) hn h
  rwa [rq_exact q n m hn] at this
def isW (h l : Int) : Prop := inI h ∧ inU l
instance (h l : Int) : Decidable (isW h l) := by unfold isW; exact inferInstance
def wv (h l : Int) : Int := h * 18446744073709551616 + l
def in128 (v : Int) : Prop := -170141183460469231731687303715884105728 ≤ v ∧ v ≤ 170141183460469231731687303715884105727
instance (v : Int) : Decidable (in128 v) := by unfold in128; exact inferInstance
theorem u64_id (x : Int) (h0 : 0 ≤ x) (h1 : x < 18446744073709551616) : IntKind.u64.wrap x = x := by rw [IntKind.wrap_u64]; omega
theorem i64_id (x : Int) (h0 : -9223372036854775808 ≤ x) (h1 : x ≤ 9223372036854775807) : wrap64 x = x := by unfold wrap64; omega
/-- Terms that are accepted for a principal. -/
def goodB (p ppm every mode : Int) : Bool := decide (0 ≤ p ∧ p ≤ 1000000000000 ∧ 0 ≤ ppm ∧ ppm ≤ 1000000 ∧ 1 ≤ every ∧ every ≤ 12 ∧ 1 ≤ mode ∧ mode ≤ 6)
/-- What is left after n payments; false: a step leads to more than the limit. -/
def restS (ppm every mode pay : Int) : Nat → Int → Int × Bool
  | 0, p => (p, true)
  | n + 1, p =>
    let q := p + rq (p * (ppm * every)) 12000000 mode - pay
    if q > 1000000000000 then (0, false) else restS ppm every mode pay n (if q < 0 then 0 else q)
def restR (p ppm every mode count pay : Int) : Int × Int :=
  if goodB p ppm every mode = true ∧ 0 ≤ count ∧ count ≤ 120 ∧ 0 ≤ pay ∧ pay ≤ 1000000000000 then
    (if (restS ppm every mode pay count.toNat p).2 = true then ((restS ppm every mode pay count.toNat p).1, 0) else (0, 6)) else (0, 1)
theorem interest_range {p ppm every mode : Int} (p0 : 0 ≤ p) (p1 : p ≤ 1000000000000) (i0 : 0 ≤ ppm) (i1 : ppm ≤ 1000000) (e0 : 1 ≤ every) (e1 : every ≤ 12) :
    0 ≤ p * (ppm * every) ∧ p * (ppm * every) ≤ 12000000000000000000 ∧ 0 ≤ rq (p * (ppm * every)) 12000000 mode ∧ rq (p * (ppm * every)) 12000000 mode ≤ p ∧ 0 ≤ ppm * every ∧ ppm * every ≤ 12000000 := by
  have a0 : 0 ≤ ppm * every := Int.mul_nonneg i0 (by omega)
  have a1 : ppm * every ≤ 12000000 := by
    have := Int.mul_le_mul i1 e1 (by omega) (by omega)
    omega
  have b0 : 0 ≤ p * (ppm * every) := Int.mul_nonneg p0 a0
  have b1 : p * (ppm * every) ≤ p * 12000000 := Int.mul_le_mul_of_nonneg_left a1 p0
  exact ⟨b0, by omega, rq_nonneg (by decide) b0, rq_le_of (by decide) b1, a0, a1⟩
theorem andTop (x : Int) (h0 : 0 ≤ x) (h1 : x < 18446744073709551616) : (Go.bits .and .u64 x 9223372036854775808 = 0) ↔ x < 9223372036854775808 := by
  obtain ⟨n, rfl⟩ := Int.eq_ofNat_of_zero_le h0
  have h := u64_and_nat n 9223372036854775808 (by omega) (by omega)
  rw [show ((9223372036854775808 : Nat) : Int) = 9223372036854775808 from rfl] at h
  rw [h]
  have e : (n &&& 2 ^ 63).testBit 63 = n.testBit 63 := by rw [Nat.testBit_and, Nat.testBit_two_pow_self, Bool.and_true]
  rw [show (9223372036854775808 : Nat) = 2 ^ 63 by decide]
  constructor
  · intro hz
    have hz' : n &&& 2 ^ 63 = 0 := by omega
    rw [hz', Nat.zero_testBit] at e
    by_cases hn : n < 9223372036854775808
    · omega
    · exfalso
      rw [Nat.testBit_eq_decide_div_mod_eq] at e
      have := of_decide_eq_false e.symm
      omega
  · intro hn
    have hz : n &&& 2 ^ 63 = 0 := by
      apply Nat.eq_of_testBit_eq
      intro i
      rw [Nat.testBit_and, Nat.testBit_two_pow, Nat.zero_testBit]
      by_cases hi : 63 = i
      · subst hi
        rw [Nat.testBit_lt_two_pow (by omega)]
        rfl
      · simp [hi]
    rw [hz]; rfl
theorem div_of {n y q r : Int} (hy : 0 < y) (h : n = q * y + r) (h0 : 0 ≤ r) (h1 : r < y) : n / y = q ∧ n % y = r := by
  have e : n / y = q := by
    rw [h, Int.add_comm, Int.add_mul_ediv_right _ _ (by omega), Int.ediv_eq_zero_of_lt h0 h1]; omega
  refine ⟨e, ?_⟩
  have := Int.emod_add_mul_ediv n y
  rw [e, Int.mul_comm] at this
  omega
theorem neg_div {m n : Int} (hn : 0 < n) : -m / n = (if 0 < m % n then -(m / n + 1) else -(m / n)) ∧ -m % n = (if 0 < m % n then n - m % n else 0) := by
  have h1 := Int.emod_nonneg m (show n ≠ 0 by omega)
  have h2 := Int.emod_lt_of_pos m hn
  have h3 := Int.emod_add_mul_ediv m n
  split
  · refine div_of hn (n := -m) (q := -(m / n + 1)) (r := n - m % n) ?_ (by omega) (by omega)
    rw [Int.neg_mul, Int.add_mul, Int.one_mul, Int.mul_comm (m / n)]
    omega
  · refine div_of hn (n := -m) (q := -(m / n)) (r := 0) ?_ (by omega) (by omega)
    rw [Int.neg_mul, Int.mul_comm (m / n)]
    omega
theorem mul_abs (a b : Int) (a0 : -9223372036854775808 ≤ a) (a1 : a ≤ 9223372036854775807) (b0 : -9223372036854775808 ≤ b) (b1 : b ≤ 9223372036854775807) :
    (if a < 0 then -a else a) * (if b < 0 then -b else b) = (if decide (a < 0) != decide (b < 0) then -(a * b) else a * b) ∧
    0 ≤ (if a < 0 then -a else a) * (if b < 0 then -b else b) ∧ (if a < 0 then -a else a) * (if b < 0 then -b else b) ≤ 85070591730234615865843651857942052864 := by
  have h0 : 0 ≤ (if a < 0 then -a else a) ∧ (if a < 0 then -a else a) ≤ 9223372036854775808 := by split <;> omega
  have h1 : 0 ≤ (if b < 0 then -b else b) ∧ (if b < 0 then -b else b) ≤ 9223372036854775808 := by split <;> omega
  refine ⟨?_, Int.mul_nonneg h0.1 h1.1, ?_⟩
  · by_cases ha : a < 0 <;> by_cases hb : b < 0 <;> simp [ha, hb, Int.neg_mul, Int.mul_neg]
  · have := Int.mul_le_mul h0.2 h1.2 h1.1 (by decide)
    omega
/-- What a rounded division answers: the quotient and the code of the error. -/
def divR (v n mode : Int) : Int × Int := if n < 1 ∨ mode < 1 ∨ 6 < mode then (0, 1) else if inI (rq v n mode) then (rq v n mode, 0) else (0, 6)
/-- The quotient's size. -/
theorem quo_range {v n : Int} (vr : -170141183460469231731687303715884105728 ≤ v ∧ v ≤ 170141183460469231731687303715884105727) (hn : 1 ≤ n) :
    (-170141183460469231731687303715884105728 ≤ v / n ∧ v / n ≤ 170141183460469231731687303715884105727) ∧ (0 < v % n → v / n ≤ 170141183460469231731687303715884105726) := by
  have r0 := Int.emod_nonneg v (show n ≠ 0 by omega)
  have r1 := Int.emod_lt_of_pos v (show 0 < n by omega)
  have h3 := Int.emod_add_mul_ediv v n
  constructor
  · by_cases hv0 : 0 ≤ v
    · have := Int.ediv_nonneg hv0 (show 0 ≤ n by omega)
      have := Int.ediv_le_self n hv0
      omega
    · have h4 : v / n < 0 := Int.ediv_neg_of_neg_of_pos (by omega) (by omega)
      have h5 := Int.mul_le_mul_of_nonpos_right (show 1 ≤ n by omega) (show v / n + 1 ≤ 0 by omega)
      rw [Int.mul_add, Int.mul_one, Int.one_mul] at h5
      omega
  · intro hr
    by_cases h1n : n = 1
    · subst h1n; rw [Int.emod_one] at hr; omega
    · by_cases hq0 : 0 ≤ v / n
      · have h4 : 2 * (v / n) ≤ n * (v / n) := Int.mul_le_mul_of_nonneg_right (by omega) hq0
        omega
      · omega
/-- A search by halves. -/
def bisS (E : Int → Bool) : Nat → Int → Int → Int
  | 0, lo, _ => lo
  | n + 1, lo, hi => if lo < hi then (if E ((lo + hi) / 2) = true then bisS E n lo ((lo + hi) / 2) else bisS E n ((lo + hi) / 2 + 1) hi) else lo
def enoughB (p ppm every mode count bal pay : Int) : Bool := (restS ppm every mode pay count.toNat p).2 && decide ((restS ppm every mode pay count.toNat p).1 ≤ bal)
/-- The program's payment. -/
def payR (p ppm every mode count bal : Int) : Int × Int :=
  if goodB p ppm every mode = true ∧ 1 ≤ count ∧ count ≤ 120 ∧ 0 ≤ bal ∧ bal ≤ p then
    (if enoughB p ppm every mode count bal 1000000000000 = true then (bisS (enoughB p ppm every mode count bal) 41 0 1000000000000, 0) else (0, 6)) else (0, 1)
end Go.Proofs.YtbifbnjkpmmedaaDoor.PA
