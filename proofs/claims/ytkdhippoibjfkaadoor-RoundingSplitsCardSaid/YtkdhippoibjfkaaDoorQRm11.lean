import Derived.Test.YtkdhippoibjfkaaDoorQRm2
import Derived.Test.YtkdhippoibjfkaaDoorQRm5
import Derived.Test.YtkdhippoibjfkaaDoorQRm6
import Derived.Test.YtkdhippoibjfkaaDoorQRm8
import Derived.Test.YtkdhippoibjfkaaDoorQRm9
import Derived.Test.YtkdhippoibjfkaaDoorQRm10
section
namespace Go.Proofs.YtkdhippoibjfkaaDoor.PR
open Go.RowKit Go.Proofs.YtkdhippoibjfkaaDoorW.PrintWords Go.Proofs.YtkdhippoibjfkaaDoorW.PrintLast
set_option linter.unusedVariables false
set_option linter.unusedSimpArgs false
attribute [local go_sem high] eqA24
def corebanklaw02_liveP.j0 : Nat → Int → Int → Int → List Int → Int → Int → Int → Bool → Option (Bool)
 | 0, _, _, _, _, _, _, _, _ => none
 | k + 1, x2, x4, x7, x8, x9, x11, x13, x70 => if x70 = true then (some false) else (if x2 = 0 then (if x4 = 0 then (if x7 = 0 then (if x9 = 0 then (if x11 = 0 then (if x13 = 0 then (if 0 < (x8.length : Int) then (if (rd x8 0) = (-2) then (if 1 < (x8.length : Int) then (if (rd x8 1) = 0 then (if 2 < (x8.length : Int) then (if (rd x8 2) = (-5) then ((rounding_Valid.f 6).bind fun t349 => (some t349)) else (some false)) else (none)) else (some false)) else (none)) else (some false)) else (none)) else (some false)) else (some false)) else (some false)) else (some false)) else (some false)) else (some false))
def corebanklaw02_liveP.f (k : Nat)  : Option (Bool) := (corebankref01_Of.f (-5)).bind fun bt320 => ((rounding_Divide.f bt320.1 bt320.2 2 6).bind fun bt322 => ((corebankref01_Of.f (-5)).bind fun bt324 => ((rounding_Divide.f bt324.1 bt324.2 2 5).bind fun bt326 => ((rounding_Amount.f 0 6588000000000 6).bind fun bt328 => ((rounding_Split.f k (-7) (([1, 0, 2] : List Int))).bind fun bt336 => ((rounding_Percent.f 1005 5000 2).bind fun bt340 => ((rounding_Step.f 1250 100 5).bind fun bt342 => (if bt322.1 = (-2) then (if bt326.1 = (-3) then (if bt328.1 = 4 then ((corebankref01_Of.f 175680000000).bind fun bt344 => (if (!(bt328.2.1 == bt344.1) || (!(bt328.2.2.1 == bt344.2))) = true then (corebanklaw02_liveP.j0 k bt322.2 bt326.2 bt328.2.2.2 bt336.1 bt336.2 bt340.2 bt342.2 true) else (if bt340.1 = 6 then (if bt342.1 = 1300 then (corebanklaw02_liveP.j0 k bt322.2 bt326.2 bt328.2.2.2 bt336.1 bt336.2 bt340.2 bt342.2 ((bt336.1.length : Int) != 3)) else (corebanklaw02_liveP.j0 k bt322.2 bt326.2 bt328.2.2.2 bt336.1 bt336.2 bt340.2 bt342.2 true)) else (corebanklaw02_liveP.j0 k bt322.2 bt326.2 bt328.2.2.2 bt336.1 bt336.2 bt340.2 bt342.2 true)))) else (corebanklaw02_liveP.j0 k bt322.2 bt326.2 bt328.2.2.2 bt336.1 bt336.2 bt340.2 bt342.2 true)) else (corebanklaw02_liveP.j0 k bt322.2 bt326.2 bt328.2.2.2 bt336.1 bt336.2 bt340.2 bt342.2 true)) else (corebanklaw02_liveP.j0 k bt322.2 bt326.2 bt328.2.2.2 bt336.1 bt336.2 bt340.2 bt342.2 true)))))))))
theorem corebanklaw02_liveP.mono_l : ∀ k, (∀ y0 y1 y2 y3 y4 y5 y6 y7, LeO (corebanklaw02_liveP.j0 k y0 y1 y2 y3 y4 y5 y6 y7) (corebanklaw02_liveP.j0 (k + 1) y0 y1 y2 y3 y4 y5 y6 y7))
 | 0 => fun _ _ _ _ _ _ _ _ r h => by simp [corebanklaw02_liveP.j0] at h
 | k + 1 => by
  have ih0 := corebanklaw02_liveP.mono_l k
  ·intro y0 y1 y2 y3 y4 y5 y6 y7
   unfold corebanklaw02_liveP.j0
   repeat' first
   | (with_reducible exact ih0 _ _ _ _ _ _ _ _)
   | (with_reducible exact rounding_Split.mono _ _ _)
   | (with_reducible exact LeO.refl _)
   | (with_reducible exact LeO.none _)
   | (with_reducible refine LeO.ite ?_ ?_)
   | (with_reducible refine LeO.bind ?_ (fun _ => ?_))
   | exact ih0 _ _ _ _ _ _ _ _
   | exact rounding_Split.mono _ _ _
   | exact LeO.none _
   | refine LeO.ite ?_ ?_
   | refine LeO.bind ?_ (fun _ => ?_)
theorem corebanklaw02_liveP.mono : ∀ k, LeO (corebanklaw02_liveP.f k ) (corebanklaw02_liveP.f (k + 1) ) := by
 intro  k
 have ih0 := corebanklaw02_liveP.mono_l k
 unfold corebanklaw02_liveP.f
 repeat' first
   | (with_reducible exact ih0 _ _ _ _ _ _ _ _)
   | (with_reducible exact rounding_Split.mono _ _ _)
   | (with_reducible exact LeO.refl _)
   | (with_reducible exact LeO.none _)
   | (with_reducible refine LeO.ite ?_ ?_)
   | (with_reducible refine LeO.bind ?_ (fun _ => ?_))
   | exact ih0 _ _ _ _ _ _ _ _
   | exact rounding_Split.mono _ _ _
   | exact LeO.none _
   | refine LeO.ite ?_ ?_
   | refine LeO.bind ?_ (fun _ => ?_)
def corebanklaw02_liveP.T7 : Bool × List (List Nat × List Nat) := (true, [([], []), ([0], [0]), ([1], [1]), ([2], [2]), ([3, 2], [2, 3]), ([2, 4], [2, 4]), ([5, 2], [5]), ([6], [6]), ([7, 6], [6, 7]), ([6, 8], [6, 8]), ([9, 6], [9]), ([10], [10]), ([10, 10], [10]), ([11, 12, 10], [10, 11, 12]), ([10, 13], [10, 13]), ([14, 12], [14]), ([15], [15]), ([16, 15], [15, 16]), ([15, 17], [15, 17]), ([18, 15], [18]), ([19], [19]), ([20, 19], [19, 20]), ([19, 21], [19, 21]), ([22, 19], [22]), ([23], [23]), ([24, 23], [23, 24]), ([25, 23], [23, 25]), ([23, 26], [23, 26])])
def corebanklaw02_liveP.B7 : List Nat := [0, 1, 3, 7, 15, 31, 63, 127, 255, 511, 1023, 2047, 2047, 8191, 16383, 32767, 65535, 131071, 262143, 524287, 1048575, 2097151, 4194303, 8388607, 16777215, 33554431, 67108863, 134217727]
theorem corebanklaw02_liveP.tab7 : rtab .any (opsOf Tryd.f15 7) = corebanklaw02_liveP.T7 := by kernel_rfl
theorem corebanklaw02_liveP.bits7 : waitsOk corebanklaw02_liveP.T7.2 corebanklaw02_liveP.B7 = true := by kernel_rfl
set_option maxHeartbeats 8000000 in
set_option maxRecDepth 100000 in
theorem corebanklaw02_liveP.calls (k : Nat)  (r : Bool) (w : World) (hG : GW w) (h : corebanklaw02_liveP.f k  = some r) :
  Calls Tryd.prog 15 #[] w fun e w' => e = .returned (.bool r) ∧ Below w.heap.size w w' := by
 have hu24 := Tryd.underlying24
 have HB := Aside0.mk (Below.refl w.heap.size w)
 have H : ((corebankref01_Of.f (-5)).bind fun bt320 => ((rounding_Divide.f bt320.1 bt320.2 2 6).bind fun bt322 => ((corebankref01_Of.f (-5)).bind fun bt324 => ((rounding_Divide.f bt324.1 bt324.2 2 5).bind fun bt326 => ((rounding_Amount.f 0 6588000000000 6).bind fun bt328 => ((rounding_Split.f k (-7) (([1, 0, 2] : List Int))).bind fun bt336 => ((rounding_Percent.f 1005 5000 2).bind fun bt340 => ((rounding_Step.f 1250 100 5).bind fun bt342 => (if bt322.1 = (-2) then (if bt326.1 = (-3) then (if bt328.1 = 4 then ((corebankref01_Of.f 175680000000).bind fun bt344 => (if (!(bt328.2.1 == bt344.1) || (!(bt328.2.2.1 == bt344.2))) = true then (corebanklaw02_liveP.j0 k bt322.2 bt326.2 bt328.2.2.2 bt336.1 bt336.2 bt340.2 bt342.2 true) else (if bt340.1 = 6 then (if bt342.1 = 1300 then (corebanklaw02_liveP.j0 k bt322.2 bt326.2 bt328.2.2.2 bt336.1 bt336.2 bt340.2 bt342.2 ((bt336.1.length : Int) != 3)) else (corebanklaw02_liveP.j0 k bt322.2 bt326.2 bt328.2.2.2 bt336.1 bt336.2 bt340.2 bt342.2 true)) else (corebanklaw02_liveP.j0 k bt322.2 bt326.2 bt328.2.2.2 bt336.1 bt336.2 bt340.2 bt342.2 true)))) else (corebanklaw02_liveP.j0 k bt322.2 bt326.2 bt328.2.2.2 bt336.1 bt336.2 bt340.2 bt342.2 true)) else (corebanklaw02_liveP.j0 k bt322.2 bt326.2 bt328.2.2.2 bt336.1 bt336.2 bt340.2 bt342.2 true)) else (corebanklaw02_liveP.j0 k bt322.2 bt326.2 bt328.2.2.2 bt336.1 bt336.2 bt340.2 bt342.2 true)))))))))) = some r := h
 clear h
 replace H := Option.bind_eq_some_iff.mp H
 obtain ⟨⟨t320, t321⟩, A10, H⟩ := H
 replace H : ((rounding_Divide.f t320 t321 2 6).bind fun bt322 => ((corebankref01_Of.f (-5)).bind fun bt324 => ((rounding_Divide.f bt324.1 bt324.2 2 5).bind fun bt326 => ((rounding_Amount.f 0 6588000000000 6).bind fun bt328 => ((rounding_Split.f k (-7) (([1, 0, 2] : List Int))).bind fun bt336 => ((rounding_Percent.f 1005 5000 2).bind fun bt340 => ((rounding_Step.f 1250 100 5).bind fun bt342 => (if bt322.1 = (-2) then (if bt326.1 = (-3) then (if bt328.1 = 4 then ((corebankref01_Of.f 175680000000).bind fun bt344 => (if (!(bt328.2.1 == bt344.1) || (!(bt328.2.2.1 == bt344.2))) = true then (corebanklaw02_liveP.j0 k bt322.2 bt326.2 bt328.2.2.2 bt336.1 bt336.2 bt340.2 bt342.2 true) else (if bt340.1 = 6 then (if bt342.1 = 1300 then (corebanklaw02_liveP.j0 k bt322.2 bt326.2 bt328.2.2.2 bt336.1 bt336.2 bt340.2 bt342.2 ((bt336.1.length : Int) != 3)) else (corebanklaw02_liveP.j0 k bt322.2 bt326.2 bt328.2.2.2 bt336.1 bt336.2 bt340.2 bt342.2 true)) else (corebanklaw02_liveP.j0 k bt322.2 bt326.2 bt328.2.2.2 bt336.1 bt336.2 bt340.2 bt342.2 true)))) else (corebanklaw02_liveP.j0 k bt322.2 bt326.2 bt328.2.2.2 bt336.1 bt336.2 bt340.2 bt342.2 true)) else (corebanklaw02_liveP.j0 k bt322.2 bt326.2 bt328.2.2.2 bt336.1 bt336.2 bt340.2 bt342.2 true)) else (corebanklaw02_liveP.j0 k bt322.2 bt326.2 bt328.2.2.2 bt336.1 bt336.2 bt340.2 bt342.2 true))))))))) = some r := H
 have A1 := Aside0.mk A10
 clear A10
 replace H := Option.bind_eq_some_iff.mp H
 obtain ⟨⟨t322, t323⟩, A20, H⟩ := H
 replace H : ((corebankref01_Of.f (-5)).bind fun bt324 => ((rounding_Divide.f bt324.1 bt324.2 2 5).bind fun bt326 => ((rounding_Amount.f 0 6588000000000 6).bind fun bt328 => ((rounding_Split.f k (-7) (([1, 0, 2] : List Int))).bind fun bt336 => ((rounding_Percent.f 1005 5000 2).bind fun bt340 => ((rounding_Step.f 1250 100 5).bind fun bt342 => (if t322 = (-2) then (if bt326.1 = (-3) then (if bt328.1 = 4 then ((corebankref01_Of.f 175680000000).bind fun bt344 => (if (!(bt328.2.1 == bt344.1) || (!(bt328.2.2.1 == bt344.2))) = true then (corebanklaw02_liveP.j0 k t323 bt326.2 bt328.2.2.2 bt336.1 bt336.2 bt340.2 bt342.2 true) else (if bt340.1 = 6 then (if bt342.1 = 1300 then (corebanklaw02_liveP.j0 k t323 bt326.2 bt328.2.2.2 bt336.1 bt336.2 bt340.2 bt342.2 ((bt336.1.length : Int) != 3)) else (corebanklaw02_liveP.j0 k t323 bt326.2 bt328.2.2.2 bt336.1 bt336.2 bt340.2 bt342.2 true)) else (corebanklaw02_liveP.j0 k t323 bt326.2 bt328.2.2.2 bt336.1 bt336.2 bt340.2 bt342.2 true)))) else (corebanklaw02_liveP.j0 k t323 bt326.2 bt328.2.2.2 bt336.1 bt336.2 bt340.2 bt342.2 true)) else (corebanklaw02_liveP.j0 k t323 bt326.2 bt328.2.2.2 bt336.1 bt336.2 bt340.2 bt342.2 true)) else (corebanklaw02_liveP.j0 k t323 bt326.2 bt328.2.2.2 bt336.1 bt336.2 bt340.2 bt342.2 true)))))))) = some r := H
 have A2 := Aside0.mk A20
 clear A20
 replace H := Option.bind_eq_some_iff.mp H
 obtain ⟨⟨t324, t325⟩, A30, H⟩ := H
 replace H : ((rounding_Divide.f t324 t325 2 5).bind fun bt326 => ((rounding_Amount.f 0 6588000000000 6).bind fun bt328 => ((rounding_Split.f k (-7) (([1, 0, 2] : List Int))).bind fun bt336 => ((rounding_Percent.f 1005 5000 2).bind fun bt340 => ((rounding_Step.f 1250 100 5).bind fun bt342 => (if t322 = (-2) then (if bt326.1 = (-3) then (if bt328.1 = 4 then ((corebankref01_Of.f 175680000000).bind fun bt344 => (if (!(bt328.2.1 == bt344.1) || (!(bt328.2.2.1 == bt344.2))) = true then (corebanklaw02_liveP.j0 k t323 bt326.2 bt328.2.2.2 bt336.1 bt336.2 bt340.2 bt342.2 true) else (if bt340.1 = 6 then (if bt342.1 = 1300 then (corebanklaw02_liveP.j0 k t323 bt326.2 bt328.2.2.2 bt336.1 bt336.2 bt340.2 bt342.2 ((bt336.1.length : Int) != 3)) else (corebanklaw02_liveP.j0 k t323 bt326.2 bt328.2.2.2 bt336.1 bt336.2 bt340.2 bt342.2 true)) else (corebanklaw02_liveP.j0 k t323 bt326.2 bt328.2.2.2 bt336.1 bt336.2 bt340.2 bt342.2 true)))) else (corebanklaw02_liveP.j0 k t323 bt326.2 bt328.2.2.2 bt336.1 bt336.2 bt340.2 bt342.2 true)) else (corebanklaw02_liveP.j0 k t323 bt326.2 bt328.2.2.2 bt336.1 bt336.2 bt340.2 bt342.2 true)) else (corebanklaw02_liveP.j0 k t323 bt326.2 bt328.2.2.2 bt336.1 bt336.2 bt340.2 bt342.2 true))))))) = some r := H
 have A3 := Aside0.mk A30
 clear A30
 replace H := Option.bind_eq_some_iff.mp H
 obtain ⟨⟨t326, t327⟩, A40, H⟩ := H
 replace H : ((rounding_Amount.f 0 6588000000000 6).bind fun bt328 => ((rounding_Split.f k (-7) (([1, 0, 2] : List Int))).bind fun bt336 => ((rounding_Percent.f 1005 5000 2).bind fun bt340 => ((rounding_Step.f 1250 100 5).bind fun bt342 => (if t322 = (-2) then (if t326 = (-3) then (if bt328.1 = 4 then ((corebankref01_Of.f 175680000000).bind fun bt344 => (if (!(bt328.2.1 == bt344.1) || (!(bt328.2.2.1 == bt344.2))) = true then (corebanklaw02_liveP.j0 k t323 t327 bt328.2.2.2 bt336.1 bt336.2 bt340.2 bt342.2 true) else (if bt340.1 = 6 then (if bt342.1 = 1300 then (corebanklaw02_liveP.j0 k t323 t327 bt328.2.2.2 bt336.1 bt336.2 bt340.2 bt342.2 ((bt336.1.length : Int) != 3)) else (corebanklaw02_liveP.j0 k t323 t327 bt328.2.2.2 bt336.1 bt336.2 bt340.2 bt342.2 true)) else (corebanklaw02_liveP.j0 k t323 t327 bt328.2.2.2 bt336.1 bt336.2 bt340.2 bt342.2 true)))) else (corebanklaw02_liveP.j0 k t323 t327 bt328.2.2.2 bt336.1 bt336.2 bt340.2 bt342.2 true)) else (corebanklaw02_liveP.j0 k t323 t327 bt328.2.2.2 bt336.1 bt336.2 bt340.2 bt342.2 true)) else (corebanklaw02_liveP.j0 k t323 t327 bt328.2.2.2 bt336.1 bt336.2 bt340.2 bt342.2 true)))))) = some r := H
 have A4 := Aside0.mk A40
 clear A40
 replace H := Option.bind_eq_some_iff.mp H
 obtain ⟨⟨t328, t329, t330, t331⟩, A50, H⟩ := H
 replace H : ((rounding_Split.f k (-7) (([1, 0, 2] : List Int))).bind fun bt336 => ((rounding_Percent.f 1005 5000 2).bind fun bt340 => ((rounding_Step.f 1250 100 5).bind fun bt342 => (if t322 = (-2) then (if t326 = (-3) then (if t328 = 4 then ((corebankref01_Of.f 175680000000).bind fun bt344 => (if (!(t329 == bt344.1) || (!(t330 == bt344.2))) = true then (corebanklaw02_liveP.j0 k t323 t327 t331 bt336.1 bt336.2 bt340.2 bt342.2 true) else (if bt340.1 = 6 then (if bt342.1 = 1300 then (corebanklaw02_liveP.j0 k t323 t327 t331 bt336.1 bt336.2 bt340.2 bt342.2 ((bt336.1.length : Int) != 3)) else (corebanklaw02_liveP.j0 k t323 t327 t331 bt336.1 bt336.2 bt340.2 bt342.2 true)) else (corebanklaw02_liveP.j0 k t323 t327 t331 bt336.1 bt336.2 bt340.2 bt342.2 true)))) else (corebanklaw02_liveP.j0 k t323 t327 t331 bt336.1 bt336.2 bt340.2 bt342.2 true)) else (corebanklaw02_liveP.j0 k t323 t327 t331 bt336.1 bt336.2 bt340.2 bt342.2 true)) else (corebanklaw02_liveP.j0 k t323 t327 t331 bt336.1 bt336.2 bt340.2 bt342.2 true))))) = some r := H
 have A5 := Aside0.mk A50
 clear A50
 obtain ⟨y333, hy333⟩ : ∃ y_ : List Int, y_ = (([1, 0, 2] : List Int)) := ⟨_, rfl⟩
 replace H : ((rounding_Split.f k (-7) y333).bind fun bt336 => ((rounding_Percent.f 1005 5000 2).bind fun bt340 => ((rounding_Step.f 1250 100 5).bind fun bt342 => (if t322 = (-2) then (if t326 = (-3) then (if t328 = 4 then ((corebankref01_Of.f 175680000000).bind fun bt344 => (if (!(t329 == bt344.1) || (!(t330 == bt344.2))) = true then (corebanklaw02_liveP.j0 k t323 t327 t331 bt336.1 bt336.2 bt340.2 bt342.2 true) else (if bt340.1 = 6 then (if bt342.1 = 1300 then (corebanklaw02_liveP.j0 k t323 t327 t331 bt336.1 bt336.2 bt340.2 bt342.2 ((bt336.1.length : Int) != 3)) else (corebanklaw02_liveP.j0 k t323 t327 t331 bt336.1 bt336.2 bt340.2 bt342.2 true)) else (corebanklaw02_liveP.j0 k t323 t327 t331 bt336.1 bt336.2 bt340.2 bt342.2 true)))) else (corebanklaw02_liveP.j0 k t323 t327 t331 bt336.1 bt336.2 bt340.2 bt342.2 true)) else (corebanklaw02_liveP.j0 k t323 t327 t331 bt336.1 bt336.2 bt340.2 bt342.2 true)) else (corebanklaw02_liveP.j0 k t323 t327 t331 bt336.1 bt336.2 bt340.2 bt342.2 true))))) = some r := by first | (rw [hy333]; with_reducible exact H) | (have H2_ := (Option.bind_some _ _).symm.trans H; rw [hy333]; with_reducible exact H2_) | (have H2_ := (Option.bind_some _ _).symm.trans H; with_reducible exact H2_) | with_reducible exact H | (rw [hy333]; exact H) | exact H
 have Ny333 := Aside0.mk hy333
 clear hy333
 replace H := Option.bind_eq_some_iff.mp H
 obtain ⟨⟨t336, t337⟩, A60, H⟩ := H
 replace H : ((rounding_Percent.f 1005 5000 2).bind fun bt340 => ((rounding_Step.f 1250 100 5).bind fun bt342 => (if t322 = (-2) then (if t326 = (-3) then (if t328 = 4 then ((corebankref01_Of.f 175680000000).bind fun bt344 => (if (!(t329 == bt344.1) || (!(t330 == bt344.2))) = true then (corebanklaw02_liveP.j0 k t323 t327 t331 t336 t337 bt340.2 bt342.2 true) else (if bt340.1 = 6 then (if bt342.1 = 1300 then (corebanklaw02_liveP.j0 k t323 t327 t331 t336 t337 bt340.2 bt342.2 ((t336.length : Int) != 3)) else (corebanklaw02_liveP.j0 k t323 t327 t331 t336 t337 bt340.2 bt342.2 true)) else (corebanklaw02_liveP.j0 k t323 t327 t331 t336 t337 bt340.2 bt342.2 true)))) else (corebanklaw02_liveP.j0 k t323 t327 t331 t336 t337 bt340.2 bt342.2 true)) else (corebanklaw02_liveP.j0 k t323 t327 t331 t336 t337 bt340.2 bt342.2 true)) else (corebanklaw02_liveP.j0 k t323 t327 t331 t336 t337 bt340.2 bt342.2 true)))) = some r := H
 have A6 := Aside0.mk A60
 clear A60
 replace H := Option.bind_eq_some_iff.mp H
 obtain ⟨⟨t340, t341⟩, A70, H⟩ := H
 replace H : ((rounding_Step.f 1250 100 5).bind fun bt342 => (if t322 = (-2) then (if t326 = (-3) then (if t328 = 4 then ((corebankref01_Of.f 175680000000).bind fun bt344 => (if (!(t329 == bt344.1) || (!(t330 == bt344.2))) = true then (corebanklaw02_liveP.j0 k t323 t327 t331 t336 t337 t341 bt342.2 true) else (if t340 = 6 then (if bt342.1 = 1300 then (corebanklaw02_liveP.j0 k t323 t327 t331 t336 t337 t341 bt342.2 ((t336.length : Int) != 3)) else (corebanklaw02_liveP.j0 k t323 t327 t331 t336 t337 t341 bt342.2 true)) else (corebanklaw02_liveP.j0 k t323 t327 t331 t336 t337 t341 bt342.2 true)))) else (corebanklaw02_liveP.j0 k t323 t327 t331 t336 t337 t341 bt342.2 true)) else (corebanklaw02_liveP.j0 k t323 t327 t331 t336 t337 t341 bt342.2 true)) else (corebanklaw02_liveP.j0 k t323 t327 t331 t336 t337 t341 bt342.2 true))) = some r := H
 have A7 := Aside0.mk A70
 clear A70
 replace H := Option.bind_eq_some_iff.mp H
 obtain ⟨⟨t342, t343⟩, A80, H⟩ := H
 replace H : (if t322 = (-2) then (if t326 = (-3) then (if t328 = 4 then ((corebankref01_Of.f 175680000000).bind fun bt344 => (if (!(t329 == bt344.1) || (!(t330 == bt344.2))) = true then (corebanklaw02_liveP.j0 k t323 t327 t331 t336 t337 t341 t343 true) else (if t340 = 6 then (if t342 = 1300 then (corebanklaw02_liveP.j0 k t323 t327 t331 t336 t337 t341 t343 ((t336.length : Int) != 3)) else (corebanklaw02_liveP.j0 k t323 t327 t331 t336 t337 t341 t343 true)) else (corebanklaw02_liveP.j0 k t323 t327 t331 t336 t337 t341 t343 true)))) else (corebanklaw02_liveP.j0 k t323 t327 t331 t336 t337 t341 t343 true)) else (corebanklaw02_liveP.j0 k t323 t327 t331 t336 t337 t341 t343 true)) else (corebanklaw02_liveP.j0 k t323 t327 t331 t336 t337 t341 t343 true)) = some r := H
 have A8 := Aside0.mk A80
 clear A80
 have HC9 := Aside0.mk H
 clear H
 go_enter Tryd.func15, Tryd.ntmps15
 go_upto_region 7 with (first | ((with_reducible refine gate_callee (f := 21) rfl ?_); refine goesL_ (some 15) rfl rfl Tryd.func21 (by kernel_rfl) rfl #[.int .i64 (-5)] rfl ql_ ?_; (with_reducible refine (corebankref01_Of.calls (-5) t320 t321 _ A1.out).mono ?_); rintro e w10 ⟨rfl, hb⟩; refine ⟨_, rfl, ?_⟩; have n0_ := Aside0.mk (below_step (qb_ HB.out) hb); clear HB; have HB := n0_; clear n0_; (try clear hb); (try clear hb2); (try clear hk); (try clear hi)) | ((with_reducible refine gate_callee (f := 11) rfl ?_); refine goesL_ (some 16) rfl rfl Tryd.func11 (by kernel_rfl) rfl #[.agg #[.int .i64 t320, .int .u64 t321], .int .i64 2, .int .i64 6] rfl ql_ ?_; (with_reducible refine (rounding_Divide.calls (hG := by first | exact hG | (with_reducible exact GW.below hG (qb_ HB.out)) | (with_reducible repeat (first | exact hG | apply GW.drewN | apply GW.drew))) t320 t321 2 6 t322 t323 _ A2.out).mono ?_); rintro e w11 ⟨rfl, hb⟩; refine ⟨_, rfl, ?_⟩; have n0_ := Aside0.mk (below_step (qb_ HB.out) hb); clear HB; have HB := n0_; clear n0_; (try clear hb); (try clear hb2); (try clear hk); (try clear hi)) | ((with_reducible refine gate_callee (f := 21) rfl ?_); refine goesL_ (some 20) rfl rfl Tryd.func21 (by kernel_rfl) rfl #[.int .i64 (-5)] rfl ql_ ?_; (with_reducible refine (corebankref01_Of.calls (-5) t324 t325 _ A3.out).mono ?_); rintro e w12 ⟨rfl, hb⟩; refine ⟨_, rfl, ?_⟩; have n0_ := Aside0.mk (below_step (qb_ HB.out) hb); clear HB; have HB := n0_; clear n0_; (try clear hb); (try clear hb2); (try clear hk); (try clear hi)) | ((with_reducible refine gate_callee (f := 11) rfl ?_); refine goesL_ (some 21) rfl rfl Tryd.func11 (by kernel_rfl) rfl #[.agg #[.int .i64 t324, .int .u64 t325], .int .i64 2, .int .i64 5] rfl ql_ ?_; (with_reducible refine (rounding_Divide.calls (hG := by first | exact hG | (with_reducible exact GW.below hG (qb_ HB.out)) | (with_reducible repeat (first | exact hG | apply GW.drewN | apply GW.drew))) t324 t325 2 5 t326 t327 _ A4.out).mono ?_); rintro e w13 ⟨rfl, hb⟩; refine ⟨_, rfl, ?_⟩; have n0_ := Aside0.mk (below_step (qb_ HB.out) hb); clear HB; have HB := n0_; clear n0_; (try clear hb); (try clear hb2); (try clear hk); (try clear hi)) | ((with_reducible refine gate_callee (f := 16) rfl ?_); refine goesL_ (some 26) rfl rfl Tryd.func16 (by kernel_rfl) rfl #[.agg #[.int .i64 0, .int .u64 6588000000000], .int .i64 6] rfl ql_ ?_; (with_reducible refine (rounding_Amount.calls (hG := by first | exact hG | (with_reducible exact GW.below hG (qb_ HB.out)) | (with_reducible repeat (first | exact hG | apply GW.drewN | apply GW.drew))) 0 6588000000000 6 t328 t329 t330 t331 _ A5.out).mono ?_); rintro e w14 ⟨rfl, hb⟩; refine ⟨_, rfl, ?_⟩; have n0_ := Aside0.mk (below_step (qb_ HB.out) hb); clear HB; have HB := n0_; clear n0_; (try clear hb); (try clear hb2); (try clear hk); (try clear hi)) | ((with_reducible refine gate_dst (N := 6) rfl ?_); (try (refine gate_guard (by rfl) ?_; dsimp only)); refine be_ (N := 6) (cs := #[.int .i64 0, .int .u64 0]) (t := 24) ?_; intro gb332 hg w15 hbox hb; have n0_ := Aside0.mk (below_step (qb_ HB.out) hb); have n1_ := Aside0.mk (hbox); have n2_ := Aside0.mk (bz_ hg (qb_ HB.out) : w.heap.size ≤ gb332); have n3_ := n2_; clear HB; have HB := n0_; have BK332 := n1_; have GW332 := n2_; have GE332 := n3_; clear n0_ n1_ n2_ n3_; clear hb hbox hg; have hcz16_0 : w15.cell? ⟨gb332, 0, none⟩ = some (.int .i64 0) := (blk_cell BK332.out 0).trans rfl; have hcz16_1 : w15.cell? ⟨gb332, 1, none⟩ = some (.int .u64 0) := (blk_cell BK332.out 1).trans rfl; have hfz16_0 := blk_frozen BK332.out 0; have hfz16_1 := blk_frozen BK332.out 1) | ((with_reducible refine gate_dst (N := 31) rfl ?_); (try (refine gate_guard (by rfl) ?_; dsimp only)); refine Kd.R_lit (Kd.int .i64) _ 3 ?hg (N := 31) ?hd (xs := ([1, 0, 2] : List Int)) (inner := [.int .i64 1, .int .i64 0, .int .i64 2]) (ok := fun _ => True) (okp := fun _ => True) ?hr ?hp (fun _ hk => hk) trivial (Below.refl _ _) (Nat.le_refl _) (by simp) ?_; (case hd => rfl); (case hg => rfl); (case hr => first | (go_simp; done) | (go_simp; rfl)); (case hp => exact (Reps.one (show Kd.M (Kd.int .i64) _ _ _ 1 [.int .i64 1] from rfl) (Reps.one (show Kd.M (Kd.int .i64) _ _ _ 0 [.int .i64 0] from rfl) (Reps.one (show Kd.M (Kd.int .i64) _ _ _ 2 [.int .i64 2] from rfl) (Reps.none _ _))))); intro v334 w17 ho18 hb hg_ hnew_; clear hg_ hnew_; (first | rw [← Ny333.out] at ho18 | (simp only [Int.reduceToNat] at ho18; rw [← Ny333.out] at ho18)); have n0_ := Aside0.mk (Kd.R_lower ho18 (below_size (qb1_ GE332.out HB.out))); have n1_ := Aside0.mk (blk_below (g := gb332) (o := .cells #[.int .i64 t329, .int .u64 t330] 24 (0, 0)) (qpp_ #[.int .i64 t329, .int .u64 0] 1 #[.int .i64 0, .int .u64 0] 0 BK332.out) hb); have n2_ := Aside0.mk (below_step (qb1_ GE332.out HB.out) hb); clear BK332; clear HB; have HO335 := n0_; have BK332 := n1_; have HB := n2_; clear n0_ n1_ n2_; clear hb ho18; obtain ⟨Ao19, co19, eo19⟩ := Kd.R_slice HO335.out; subst eo19) | ((with_reducible refine gate_callee (f := 24) rfl ?_); refine goesL_ (some 32) rfl rfl Tryd.func24 (by kernel_rfl) rfl #[.int .i64 (-7), .slice Ao19 y333.length co19] rfl ql_ ?_; (with_reducible refine (rounding_Split.calls k (-7) _ _ y333 t336 t337 _ ?side1 ?side2 A6.out).mono ?_); (case side1 => repeat (first | exact (Kd.R_reads' HO335.out).2.2 | (with_reducible refine Kd.C_alloc ?_ _) | (with_reducible refine Kd.C_drewN ?_ _) | (with_reducible refine Kd.C_drew ?_))); (case side2 => exact (Kd.R_reads' HO335.out).2.1); rintro e w20 ⟨v338, rfl, ho0, hb⟩; refine ⟨_, rfl, ?_⟩; have n0_ := Aside0.mk (Kd.R_elder' (by (with_reducible repeat (first | apply Kd.R_alloc | apply Kd.R_drewN | apply Kd.R_drew)); exact HO335.out) (Kd.R_base ho0) hb); have n1_ := Aside0.mk (Kd.R_lower (Kd.R_new' ho0 (Kd.R_lt (by (with_reducible repeat (first | apply Kd.R_alloc | apply Kd.R_drewN | apply Kd.R_drew)); exact HO335.out))) (below_size (qb1_ GE332.out HB.out))); have n2_ := Aside0.mk (blk_below (qk_ BK332.out) hb); have n3_ := Aside0.mk (below_step (qb1_ GE332.out HB.out) hb); clear HO335; clear BK332; clear HB; have HO335 := n0_; have HO339 := n1_; have BK332 := n2_; have HB := n3_; clear n0_ n1_ n2_ n3_; (try clear hb); (try clear hb2); (try clear hk); (try clear hi); (try clear ho0)) | ((with_reducible refine gate_callee (f := 22) rfl ?_); refine goesL_ (some 36) rfl rfl Tryd.func22 (by kernel_rfl) rfl #[.int .i64 1005, .int .i64 5000, .int .i64 2] rfl ql_ ?_; (with_reducible refine (rounding_Percent.calls (hG := by first | exact hG | (with_reducible exact GW.below hG (qb1_ GE332.out HB.out)) | (with_reducible repeat (first | exact hG | apply GW.drewN | apply GW.drew))) 1005 5000 2 t340 t341 _ A7.out).mono ?_); rintro e w21 ⟨rfl, hb⟩; refine ⟨_, rfl, ?_⟩; have n0_ := Aside0.mk (Kd.R_below (by (with_reducible repeat (first | apply Kd.R_alloc | apply Kd.R_drewN | apply Kd.R_drew)); exact HO335.out) hb); have n1_ := Aside0.mk (Kd.R_below (by (with_reducible repeat (first | apply Kd.R_alloc | apply Kd.R_drewN | apply Kd.R_drew)); exact HO339.out) hb); have n2_ := Aside0.mk (blk_below (qk_ BK332.out) hb); have n3_ := Aside0.mk (below_step (qb1_ GE332.out HB.out) hb); clear HO335; clear HO339; clear BK332; clear HB; have HO335 := n0_; have HO339 := n1_; have BK332 := n2_; have HB := n3_; clear n0_ n1_ n2_ n3_; (try clear hb); (try clear hb2); (try clear hk); (try clear hi)) | ((with_reducible refine gate_callee (f := 29) rfl ?_); refine goesL_ (some 40) rfl rfl Tryd.func29 (by kernel_rfl) rfl #[.int .i64 1250, .int .i64 100, .int .i64 5] rfl ql_ ?_; (with_reducible refine (rounding_Step.calls (hG := by first | exact hG | (with_reducible exact GW.below hG (qb1_ GE332.out HB.out)) | (with_reducible repeat (first | exact hG | apply GW.drewN | apply GW.drew))) 1250 100 5 t342 t343 _ A8.out).mono ?_); rintro e w22 ⟨rfl, hb⟩; refine ⟨_, rfl, ?_⟩; have n0_ := Aside0.mk (Kd.R_below (by (with_reducible repeat (first | apply Kd.R_alloc | apply Kd.R_drewN | apply Kd.R_drew)); exact HO335.out) hb); have n1_ := Aside0.mk (Kd.R_below (by (with_reducible repeat (first | apply Kd.R_alloc | apply Kd.R_drewN | apply Kd.R_drew)); exact HO339.out) hb); have n2_ := Aside0.mk (blk_below (qk_ BK332.out) hb); have n3_ := Aside0.mk (below_step (qb1_ GE332.out HB.out) hb); clear HO335; clear HO339; clear BK332; clear HB; have HO335 := n0_; have HO339 := n1_; have BK332 := n2_; have HB := n3_; clear n0_ n1_ n2_ n3_; (try clear hb); (try clear hb2); (try clear hk); (try clear hi)))
 (try simp only [Act.put, List.setIfInBounds_toArray, List.set_cons_zero, List.set_cons_succ])
 go_cut [70] (fun v70 wc => ∃ (kq : Nat) (x70_8 : Bool), v70 = .bool x70_8 ∧ Aside0 (corebanklaw02_liveP.j0 kq t323 t327 t331 t336 t337 t341 t343 x70_8 = some r) ∧ Aside0 (kq ≤ k) ∧ Aside0 (Kd.R (Kd.int .i64) 3 wc w.heap.size (fun _ => True) v338 t336) ∧ Aside0 (wc.heap[gb332]? = some (.cells #[.int .i64 t329, .int .u64 t330] 24 (0, 0))) ∧ Aside0 (Below w.heap.size w wc))
 case first =>
  have H := HC9.out
  clear HC9
  by_cases c23 : t322 = (-2)
  ·rw [if_pos c23] at H
   have c23b0 : (t322 == (-2)) = true := beq_iff_eq.mpr c23
   have c23b1 : (t322 != (-2)) = false := bne_eq_false_iff_eq.mpr c23
   clear c23
   (first | rw [c23b0] | (simp only [i64_w, i32_w]; rw [c23b0]) | skip)
   by_cases c24 : t326 = (-3)
   ·rw [if_pos c24] at H
    have c24b0 : (t326 == (-3)) = true := beq_iff_eq.mpr c24
    have c24b1 : (t326 != (-3)) = false := bne_eq_false_iff_eq.mpr c24
    clear c24
    by_cases c25 : t328 = 4
    ·rw [if_pos c25] at H
     have c25b0 : (t328 == 4) = true := beq_iff_eq.mpr c25
     have c25b1 : (t328 != 4) = false := bne_eq_false_iff_eq.mpr c25
     clear c25
     replace H := Option.bind_eq_some_iff.mp H
     obtain ⟨⟨t344, t345⟩, A260, H⟩ := H
     replace H : (if (!(t329 == t344) || (!(t330 == t345))) = true then (corebanklaw02_liveP.j0 k t323 t327 t331 t336 t337 t341 t343 true) else (if t340 = 6 then (if t342 = 1300 then (corebanklaw02_liveP.j0 k t323 t327 t331 t336 t337 t341 t343 ((t336.length : Int) != 3)) else (corebanklaw02_liveP.j0 k t323 t327 t331 t336 t337 t341 t343 true)) else (corebanklaw02_liveP.j0 k t323 t327 t331 t336 t337 t341 t343 true))) = some r := H
     have A26 := Aside0.mk A260
     clear A260
     by_cases c27 : (!(t329 == t344) || (!(t330 == t345))) = true
     ·rw [if_pos c27] at H
      have c27b0 : (!(t329 == t344) || (!(t330 == t345))) = true := c27
      clear c27
      have H' := Aside0.mk H
      clear H
      try go_wp2
      have n0_ := Aside0.mk (Kd.R_drew HO335.out)
      have n1_ := Aside0.mk (Kd.R_drew HO339.out)
      have n2_ := Aside0.mk (blk_drew BK332.out)
      have n3_ := Aside0.mk (below_drew1 HB.out)
      clear HO335
      clear HO339
      clear BK332
      clear HB
      have HO335 := n0_
      have HO339 := n1_
      have BK332 := n2_
      have HB := n3_
      clear n0_ n1_ n2_ n3_
      refine start_ (n := 28) (S := fun w' => w'.cell? ⟨gb332, 0, none⟩ = some (.int .i64 t329) ∧ w'.cell? ⟨gb332, 1, none⟩ = some (.int .u64 t330)) (ds := []) (nb_ 28 0) (by kernel_rfl) rfl rfl ⟨(blk_cell BK332.out 0).trans rfl, (blk_cell BK332.out 1).trans rfl⟩ (fun hHeld => ?_); refine with_tabW corebanklaw02_liveP.tab7 corebanklaw02_liveP.bits7 (fun HT_ HW_ => ?_)
      generalize w22.drew = w28 at HO335 HO339 BK332 HB hHeld ⊢
      refine pz_ 0 43 (nb_ 28 1) HT_.out ?_
      refine pz_ 1 44 (nb_ 28 3) HT_.out ?_
      refine pz_ 2 45 (nb_ 28 7) HT_.out ?_
      refine pz_ 3 46 (nb_ 28 15) HT_.out ?_
      refine pz_ 4 47 (nb_ 28 31) HT_.out ?_
      refine pz_ 5 48 (nb_ 28 63) HT_.out ?_
      refine pz_ 6 49 (nb_ 28 127) HT_.out ?_
      refine pz_ 7 50 (nb_ 28 255) HT_.out ?_
      refine pz_ 8 51 (nb_ 28 511) HT_.out ?_
      refine pz_ 9 52 (nb_ 28 1023) HT_.out ?_
      refine pz_ 10 53 (nb_ 28 2047) HT_.out ?_
      refine tk2_ 11 54 (nb_ 28 4095) HT_.out HW_.out hHeld ?_
      refine on_ 12 55 (nb_ 28 8191) HT_.out (fun K hK => ?_)
      refine goes_ Tryd.func21 (by kernel_rfl) rfl #[.int .i64 175680000000] (by rfl) rfl rfl ql_ ?_
      with_reducible refine (corebankref01_Of.calls 175680000000 t344 t345 _ A26.out).mono ?_
      rintro e w29 ⟨rfl, hb⟩
      refine ⟨_, rfl, ?_⟩
      have n0_ := Aside0.mk (Kd.R_below (by (with_reducible repeat (first | apply Kd.R_alloc | apply Kd.R_drewN | apply Kd.R_drew)); exact HO335.out) hb)
      have n1_ := Aside0.mk (Kd.R_below (by (with_reducible repeat (first | apply Kd.R_alloc | apply Kd.R_drewN | apply Kd.R_drew)); exact HO339.out) hb)
      have n2_ := Aside0.mk (blk_below (qk_ BK332.out) hb)
      have n3_ := Aside0.mk (below_step (qb1_ GE332.out HB.out) hb)
      clear HO335
      clear HO339
      clear BK332
      clear HB
      have HO335 := n0_
      have HO339 := n1_
      have BK332 := n2_
      have HB := n3_
      clear n0_ n1_ n2_ n3_
      (try clear hb)
      (try clear hb2)
      (try clear hk)
      (try clear hi)
      refine hK.out _ _ ⟨(blk_cell BK332.out 0).trans rfl, (blk_cell BK332.out 1).trans rfl⟩ (fun hHeld => ?_)
      clear hK K
      refine no_ ?_
      refine pz_ 13 56 (nb_ 28 16383) HT_.out ?_
      refine pz_ 14 57 (nb_ 28 32767) HT_.out ?_
      refine pz_ 15 58 (nb_ 28 65535) HT_.out ?_
      refine pu_ 16 59 (nb_ 28 131071) HT_.out ?_
      refine pu_ 17 60 (nb_ 28 262143) HT_.out ?_
      refine pz_ 18 61 (nb_ 28 524287) HT_.out ?_
      refine pz_ 19 62 (nb_ 28 1048575) HT_.out ?_
      refine pu_ 20 63 (nb_ 28 2097151) HT_.out ?_
      refine pu_ 21 64 (nb_ 28 4194303) HT_.out ?_
      refine pz_ 22 65 (nb_ 28 8388607) HT_.out ?_
      refine pz_ 23 66 (nb_ 28 16777215) HT_.out ?_
      refine pu_ 24 67 (nb_ 28 33554431) HT_.out ?_
      refine pu_ 25 68 (nb_ 28 67108863) HT_.out ?_
      refine pu_ 26 69 (nb_ 28 134217727) HT_.out ?_
      refine pz_ 27 70 (nb_ 28 268435455) HT_.out ?_
      refine done_ (done_of HT_.out (by kernel_rfl)) ?_
      try go_wp2
      go_meet
      case rel => exact ⟨_, (true), qs_, H', ⟨qo_⟩, ⟨by (with_reducible repeat (first | apply Kd.R_alloc | apply Kd.R_drewN | apply Kd.R_drew)); exact Kd.R_mono HO339.out (fun _ hk => trivial)⟩, ⟨qk_ BK332.out⟩, ⟨qb1_ GE332.out HB.out⟩⟩
     ·rw [if_neg c27] at H
      have c27b0 : (!(t329 == t344) || (!(t330 == t345))) = false := by simpa using c27
      clear c27
      by_cases c30 : t340 = 6
      ·rw [if_pos c30] at H
       have c30b0 : (t340 == 6) = true := beq_iff_eq.mpr c30
       have c30b1 : (t340 != 6) = false := bne_eq_false_iff_eq.mpr c30
       clear c30
       by_cases c31 : t342 = 1300
       ·rw [if_pos c31] at H
        have c31b0 : (t342 == 1300) = true := beq_iff_eq.mpr c31
        have c31b1 : (t342 != 1300) = false := bne_eq_false_iff_eq.mpr c31
        clear c31
        have H' := Aside0.mk H
        clear H
        try go_wp2
        have n0_ := Aside0.mk (Kd.R_drew HO335.out)
        have n1_ := Aside0.mk (Kd.R_drew HO339.out)
        have n2_ := Aside0.mk (blk_drew BK332.out)
        have n3_ := Aside0.mk (below_drew1 HB.out)
        clear HO335
        clear HO339
        clear BK332
        clear HB
        have HO335 := n0_
        have HO339 := n1_
        have BK332 := n2_
        have HB := n3_
        clear n0_ n1_ n2_ n3_
        refine start_ (n := 28) (S := fun w' => w'.cell? ⟨gb332, 0, none⟩ = some (.int .i64 t329) ∧ w'.cell? ⟨gb332, 1, none⟩ = some (.int .u64 t330)) (ds := []) (nb_ 28 0) (by kernel_rfl) rfl rfl ⟨(blk_cell BK332.out 0).trans rfl, (blk_cell BK332.out 1).trans rfl⟩ (fun hHeld => ?_); refine with_tabW corebanklaw02_liveP.tab7 corebanklaw02_liveP.bits7 (fun HT_ HW_ => ?_)
        generalize w22.drew = w32 at HO335 HO339 BK332 HB hHeld ⊢
        refine pz_ 0 43 (nb_ 28 1) HT_.out ?_
        refine pz_ 1 44 (nb_ 28 3) HT_.out ?_
        refine pz_ 2 45 (nb_ 28 7) HT_.out ?_
        refine pz_ 3 46 (nb_ 28 15) HT_.out ?_
        refine pz_ 4 47 (nb_ 28 31) HT_.out ?_
        refine pz_ 5 48 (nb_ 28 63) HT_.out ?_
        refine pz_ 6 49 (nb_ 28 127) HT_.out ?_
        refine pz_ 7 50 (nb_ 28 255) HT_.out ?_
        refine pz_ 8 51 (nb_ 28 511) HT_.out ?_
        refine pz_ 9 52 (nb_ 28 1023) HT_.out ?_
        refine pz_ 10 53 (nb_ 28 2047) HT_.out ?_
        refine tk2_ 11 54 (nb_ 28 4095) HT_.out HW_.out hHeld ?_
        refine on_ 12 55 (nb_ 28 8191) HT_.out (fun K hK => ?_)
        refine goes_ Tryd.func21 (by kernel_rfl) rfl #[.int .i64 175680000000] (by rfl) rfl rfl ql_ ?_
        with_reducible refine (corebankref01_Of.calls 175680000000 t344 t345 _ A26.out).mono ?_
        rintro e w33 ⟨rfl, hb⟩
        refine ⟨_, rfl, ?_⟩
        have n0_ := Aside0.mk (Kd.R_below (by (with_reducible repeat (first | apply Kd.R_alloc | apply Kd.R_drewN | apply Kd.R_drew)); exact HO335.out) hb)
        have n1_ := Aside0.mk (Kd.R_below (by (with_reducible repeat (first | apply Kd.R_alloc | apply Kd.R_drewN | apply Kd.R_drew)); exact HO339.out) hb)
        have n2_ := Aside0.mk (blk_below (qk_ BK332.out) hb)
        have n3_ := Aside0.mk (below_step (qb1_ GE332.out HB.out) hb)
        clear HO335
        clear HO339
        clear BK332
        clear HB
        have HO335 := n0_
        have HO339 := n1_
        have BK332 := n2_
        have HB := n3_
        clear n0_ n1_ n2_ n3_
        (try clear hb)
        (try clear hb2)
        (try clear hk)
        (try clear hi)
        obtain ⟨Ao34, co34, eo34⟩ := Kd.R_slice HO339.out
        (first | subst eo34 | (injection eo34 with f1_ f2_ f3_; have f4_ := f1_.symm; have f5_ := f3_.symm; clear f1_ f2_ f3_; subst f4_; subst f5_))
        refine hK.out _ _ ⟨(blk_cell BK332.out 0).trans rfl, (blk_cell BK332.out 1).trans rfl⟩ (fun hHeld => ?_)
        clear hK K
        refine no_ ?_
        refine pz_ 13 56 (nb_ 28 16383) HT_.out ?_
        refine pz_ 14 57 (nb_ 28 32767) HT_.out ?_
        refine pz_ 15 58 (nb_ 28 65535) HT_.out ?_
        refine pz_ 16 59 (nb_ 28 131071) HT_.out ?_
        refine pz_ 17 60 (nb_ 28 262143) HT_.out ?_
        refine pz_ 18 61 (nb_ 28 524287) HT_.out ?_
        refine pz_ 19 62 (nb_ 28 1048575) HT_.out ?_
        refine pz_ 20 63 (nb_ 28 2097151) HT_.out ?_
        refine pz_ 21 64 (nb_ 28 4194303) HT_.out ?_
        refine pz_ 22 65 (nb_ 28 8388607) HT_.out ?_
        refine pz_ 23 66 (nb_ 28 16777215) HT_.out ?_
        refine pz_ 24 67 (nb_ 28 33554431) HT_.out ?_
        refine pz_ 25 68 (nb_ 28 67108863) HT_.out ?_
        refine pz_ 26 69 (nb_ 28 134217727) HT_.out ?_
        refine pz_ 27 70 (nb_ 28 268435455) HT_.out ?_
        refine done_ (done_of HT_.out (by kernel_rfl)) ?_
        try go_wp2
        go_meet
        case rel => exact ⟨_, (((t336.length : Int) != 3)), qs_, H', ⟨qo_⟩, ⟨by (with_reducible repeat (first | apply Kd.R_alloc | apply Kd.R_drewN | apply Kd.R_drew)); exact Kd.R_mono HO339.out (fun _ hk => trivial)⟩, ⟨qk_ BK332.out⟩, ⟨qb1_ GE332.out HB.out⟩⟩
       ·rw [if_neg c31] at H
        have c31b0 : (t342 == 1300) = false := beq_eq_false_iff_ne.mpr c31
        have c31b1 : (t342 != 1300) = true := bne_iff_ne.mpr c31
        have H' := Aside0.mk H
        clear H
        try go_wp2
        have n0_ := Aside0.mk (Kd.R_drew HO335.out)
        have n1_ := Aside0.mk (Kd.R_drew HO339.out)
        have n2_ := Aside0.mk (blk_drew BK332.out)
        have n3_ := Aside0.mk (below_drew1 HB.out)
        clear HO335
        clear HO339
        clear BK332
        clear HB
        have HO335 := n0_
        have HO339 := n1_
        have BK332 := n2_
        have HB := n3_
        clear n0_ n1_ n2_ n3_
        refine start_ (n := 28) (S := fun w' => w'.cell? ⟨gb332, 0, none⟩ = some (.int .i64 t329) ∧ w'.cell? ⟨gb332, 1, none⟩ = some (.int .u64 t330)) (ds := []) (nb_ 28 0) (by kernel_rfl) rfl rfl ⟨(blk_cell BK332.out 0).trans rfl, (blk_cell BK332.out 1).trans rfl⟩ (fun hHeld => ?_); refine with_tabW corebanklaw02_liveP.tab7 corebanklaw02_liveP.bits7 (fun HT_ HW_ => ?_)
        generalize w22.drew = w35 at HO335 HO339 BK332 HB hHeld ⊢
        refine pz_ 0 43 (nb_ 28 1) HT_.out ?_
        refine pz_ 1 44 (nb_ 28 3) HT_.out ?_
        refine pz_ 2 45 (nb_ 28 7) HT_.out ?_
        refine pz_ 3 46 (nb_ 28 15) HT_.out ?_
        refine pz_ 4 47 (nb_ 28 31) HT_.out ?_
        refine pz_ 5 48 (nb_ 28 63) HT_.out ?_
        refine pz_ 6 49 (nb_ 28 127) HT_.out ?_
        refine pz_ 7 50 (nb_ 28 255) HT_.out ?_
        refine pz_ 8 51 (nb_ 28 511) HT_.out ?_
        refine pz_ 9 52 (nb_ 28 1023) HT_.out ?_
        refine pz_ 10 53 (nb_ 28 2047) HT_.out ?_
        refine tk2_ 11 54 (nb_ 28 4095) HT_.out HW_.out hHeld ?_
        refine on_ 12 55 (nb_ 28 8191) HT_.out (fun K hK => ?_)
        refine goes_ Tryd.func21 (by kernel_rfl) rfl #[.int .i64 175680000000] (by rfl) rfl rfl ql_ ?_
        with_reducible refine (corebankref01_Of.calls 175680000000 t344 t345 _ A26.out).mono ?_
        rintro e w36 ⟨rfl, hb⟩
        refine ⟨_, rfl, ?_⟩
        have n0_ := Aside0.mk (Kd.R_below (by (with_reducible repeat (first | apply Kd.R_alloc | apply Kd.R_drewN | apply Kd.R_drew)); exact HO335.out) hb)
        have n1_ := Aside0.mk (Kd.R_below (by (with_reducible repeat (first | apply Kd.R_alloc | apply Kd.R_drewN | apply Kd.R_drew)); exact HO339.out) hb)
        have n2_ := Aside0.mk (blk_below (qk_ BK332.out) hb)
        have n3_ := Aside0.mk (below_step (qb1_ GE332.out HB.out) hb)
        clear HO335
        clear HO339
        clear BK332
        clear HB
        have HO335 := n0_
        have HO339 := n1_
        have BK332 := n2_
        have HB := n3_
        clear n0_ n1_ n2_ n3_
        (try clear hb)
        (try clear hb2)
        (try clear hk)
        (try clear hi)
        refine hK.out _ _ ⟨(blk_cell BK332.out 0).trans rfl, (blk_cell BK332.out 1).trans rfl⟩ (fun hHeld => ?_)
        clear hK K
        refine no_ ?_
        refine pz_ 13 56 (nb_ 28 16383) HT_.out ?_
        refine pz_ 14 57 (nb_ 28 32767) HT_.out ?_
        refine pz_ 15 58 (nb_ 28 65535) HT_.out ?_
        refine pz_ 16 59 (nb_ 28 131071) HT_.out ?_
        refine pz_ 17 60 (nb_ 28 262143) HT_.out ?_
        refine pz_ 18 61 (nb_ 28 524287) HT_.out ?_
        refine pz_ 19 62 (nb_ 28 1048575) HT_.out ?_
        refine pz_ 20 63 (nb_ 28 2097151) HT_.out ?_
        refine pz_ 21 64 (nb_ 28 4194303) HT_.out ?_
        refine pz_ 22 65 (nb_ 28 8388607) HT_.out ?_
        refine pz_ 23 66 (nb_ 28 16777215) HT_.out ?_
        refine pu_ 24 67 (nb_ 28 33554431) HT_.out ?_
        refine pu_ 25 68 (nb_ 28 67108863) HT_.out ?_
        refine pu_ 26 69 (nb_ 28 134217727) HT_.out ?_
        refine pz_ 27 70 (nb_ 28 268435455) HT_.out ?_
        refine done_ (done_of HT_.out (by kernel_rfl)) ?_
        try go_wp2
        go_meet
        case rel => exact ⟨_, (true), qs_, H', ⟨qo_⟩, ⟨by (with_reducible repeat (first | apply Kd.R_alloc | apply Kd.R_drewN | apply Kd.R_drew)); exact Kd.R_mono HO339.out (fun _ hk => trivial)⟩, ⟨qk_ BK332.out⟩, ⟨qb1_ GE332.out HB.out⟩⟩
      ·rw [if_neg c30] at H
       have c30b0 : (t340 == 6) = false := beq_eq_false_iff_ne.mpr c30
       have c30b1 : (t340 != 6) = true := bne_iff_ne.mpr c30
       have H' := Aside0.mk H
       clear H
       try go_wp2
       have n0_ := Aside0.mk (Kd.R_drew HO335.out)
       have n1_ := Aside0.mk (Kd.R_drew HO339.out)
       have n2_ := Aside0.mk (blk_drew BK332.out)
       have n3_ := Aside0.mk (below_drew1 HB.out)
       clear HO335
       clear HO339
       clear BK332
       clear HB
       have HO335 := n0_
       have HO339 := n1_
       have BK332 := n2_
       have HB := n3_
       clear n0_ n1_ n2_ n3_
       refine start_ (n := 28) (S := fun w' => w'.cell? ⟨gb332, 0, none⟩ = some (.int .i64 t329) ∧ w'.cell? ⟨gb332, 1, none⟩ = some (.int .u64 t330)) (ds := []) (nb_ 28 0) (by kernel_rfl) rfl rfl ⟨(blk_cell BK332.out 0).trans rfl, (blk_cell BK332.out 1).trans rfl⟩ (fun hHeld => ?_); refine with_tabW corebanklaw02_liveP.tab7 corebanklaw02_liveP.bits7 (fun HT_ HW_ => ?_)
       generalize w22.drew = w37 at HO335 HO339 BK332 HB hHeld ⊢
       refine pz_ 0 43 (nb_ 28 1) HT_.out ?_
       refine pz_ 1 44 (nb_ 28 3) HT_.out ?_
       refine pz_ 2 45 (nb_ 28 7) HT_.out ?_
       refine pz_ 3 46 (nb_ 28 15) HT_.out ?_
       refine pz_ 4 47 (nb_ 28 31) HT_.out ?_
       refine pz_ 5 48 (nb_ 28 63) HT_.out ?_
       refine pz_ 6 49 (nb_ 28 127) HT_.out ?_
       refine pz_ 7 50 (nb_ 28 255) HT_.out ?_
       refine pz_ 8 51 (nb_ 28 511) HT_.out ?_
       refine pz_ 9 52 (nb_ 28 1023) HT_.out ?_
       refine pz_ 10 53 (nb_ 28 2047) HT_.out ?_
       refine tk2_ 11 54 (nb_ 28 4095) HT_.out HW_.out hHeld ?_
       refine on_ 12 55 (nb_ 28 8191) HT_.out (fun K hK => ?_)
       refine goes_ Tryd.func21 (by kernel_rfl) rfl #[.int .i64 175680000000] (by rfl) rfl rfl ql_ ?_
       with_reducible refine (corebankref01_Of.calls 175680000000 t344 t345 _ A26.out).mono ?_
       rintro e w38 ⟨rfl, hb⟩
       refine ⟨_, rfl, ?_⟩
       have n0_ := Aside0.mk (Kd.R_below (by (with_reducible repeat (first | apply Kd.R_alloc | apply Kd.R_drewN | apply Kd.R_drew)); exact HO335.out) hb)
       have n1_ := Aside0.mk (Kd.R_below (by (with_reducible repeat (first | apply Kd.R_alloc | apply Kd.R_drewN | apply Kd.R_drew)); exact HO339.out) hb)
       have n2_ := Aside0.mk (blk_below (qk_ BK332.out) hb)
       have n3_ := Aside0.mk (below_step (qb1_ GE332.out HB.out) hb)
       clear HO335
       clear HO339
       clear BK332
       clear HB
       have HO335 := n0_
       have HO339 := n1_
       have BK332 := n2_
       have HB := n3_
       clear n0_ n1_ n2_ n3_
       (try clear hb)
       (try clear hb2)
       (try clear hk)
       (try clear hi)
       refine hK.out _ _ ⟨(blk_cell BK332.out 0).trans rfl, (blk_cell BK332.out 1).trans rfl⟩ (fun hHeld => ?_)
       clear hK K
       refine no_ ?_
       refine pz_ 13 56 (nb_ 28 16383) HT_.out ?_
       refine pz_ 14 57 (nb_ 28 32767) HT_.out ?_
       refine pz_ 15 58 (nb_ 28 65535) HT_.out ?_
       refine pz_ 16 59 (nb_ 28 131071) HT_.out ?_
       refine pz_ 17 60 (nb_ 28 262143) HT_.out ?_
       refine pz_ 18 61 (nb_ 28 524287) HT_.out ?_
       refine pz_ 19 62 (nb_ 28 1048575) HT_.out ?_
       refine pu_ 20 63 (nb_ 28 2097151) HT_.out ?_
       refine pu_ 21 64 (nb_ 28 4194303) HT_.out ?_
       refine pz_ 22 65 (nb_ 28 8388607) HT_.out ?_
       refine pz_ 23 66 (nb_ 28 16777215) HT_.out ?_
       refine pu_ 24 67 (nb_ 28 33554431) HT_.out ?_
       refine pu_ 25 68 (nb_ 28 67108863) HT_.out ?_
       refine pu_ 26 69 (nb_ 28 134217727) HT_.out ?_
       refine pz_ 27 70 (nb_ 28 268435455) HT_.out ?_
       refine done_ (done_of HT_.out (by kernel_rfl)) ?_
       try go_wp2
       go_meet
       case rel => exact ⟨_, (true), qs_, H', ⟨qo_⟩, ⟨by (with_reducible repeat (first | apply Kd.R_alloc | apply Kd.R_drewN | apply Kd.R_drew)); exact Kd.R_mono HO339.out (fun _ hk => trivial)⟩, ⟨qk_ BK332.out⟩, ⟨qb1_ GE332.out HB.out⟩⟩
    ·rw [if_neg c25] at H
     have c25b0 : (t328 == 4) = false := beq_eq_false_iff_ne.mpr c25
     have c25b1 : (t328 != 4) = true := bne_iff_ne.mpr c25
     have H' := Aside0.mk H
     clear H
     try go_wp2
     have n0_ := Aside0.mk (Kd.R_drew HO335.out)
     have n1_ := Aside0.mk (Kd.R_drew HO339.out)
     have n2_ := Aside0.mk (blk_drew BK332.out)
     have n3_ := Aside0.mk (below_drew1 HB.out)
     clear HO335
     clear HO339
     clear BK332
     clear HB
     have HO335 := n0_
     have HO339 := n1_
     have BK332 := n2_
     have HB := n3_
     clear n0_ n1_ n2_ n3_
     refine start_ (n := 28) (S := fun w' => True) (ds := []) (nb_ 28 0) (by kernel_rfl) rfl rfl trivial (fun hHeld => ?_); refine with_tabW corebanklaw02_liveP.tab7 corebanklaw02_liveP.bits7 (fun HT_ HW_ => ?_)
     generalize w22.drew = w39 at HO335 HO339 BK332 HB hHeld ⊢
     refine pz_ 0 43 (nb_ 28 1) HT_.out ?_
     refine pz_ 1 44 (nb_ 28 3) HT_.out ?_
     refine pz_ 2 45 (nb_ 28 7) HT_.out ?_
     refine pz_ 3 46 (nb_ 28 15) HT_.out ?_
     refine pz_ 4 47 (nb_ 28 31) HT_.out ?_
     refine pz_ 5 48 (nb_ 28 63) HT_.out ?_
     refine pz_ 6 49 (nb_ 28 127) HT_.out ?_
     refine pz_ 7 50 (nb_ 28 255) HT_.out ?_
     refine pz_ 8 51 (nb_ 28 511) HT_.out ?_
     refine pz_ 9 52 (nb_ 28 1023) HT_.out ?_
     refine pz_ 10 53 (nb_ 28 2047) HT_.out ?_
     refine pu_ 11 54 (nb_ 28 4095) HT_.out ?_
     refine pu_ 12 55 (nb_ 28 8191) HT_.out ?_
     refine pu_ 13 56 (nb_ 28 16383) HT_.out ?_
     refine pz_ 14 57 (nb_ 28 32767) HT_.out ?_
     refine pz_ 15 58 (nb_ 28 65535) HT_.out ?_
     refine pu_ 16 59 (nb_ 28 131071) HT_.out ?_
     refine pu_ 17 60 (nb_ 28 262143) HT_.out ?_
     refine pz_ 18 61 (nb_ 28 524287) HT_.out ?_
     refine pz_ 19 62 (nb_ 28 1048575) HT_.out ?_
     refine pu_ 20 63 (nb_ 28 2097151) HT_.out ?_
     refine pu_ 21 64 (nb_ 28 4194303) HT_.out ?_
     refine pz_ 22 65 (nb_ 28 8388607) HT_.out ?_
     refine pz_ 23 66 (nb_ 28 16777215) HT_.out ?_
     refine pu_ 24 67 (nb_ 28 33554431) HT_.out ?_
     refine pu_ 25 68 (nb_ 28 67108863) HT_.out ?_
     refine pu_ 26 69 (nb_ 28 134217727) HT_.out ?_
     refine pz_ 27 70 (nb_ 28 268435455) HT_.out ?_
     refine done_ (done_of HT_.out (by kernel_rfl)) ?_
     try go_wp2
     go_meet
     case rel => exact ⟨_, (true), qs_, H', ⟨qo_⟩, ⟨by (with_reducible repeat (first | apply Kd.R_alloc | apply Kd.R_drewN | apply Kd.R_drew)); exact Kd.R_mono HO339.out (fun _ hk => trivial)⟩, ⟨qk_ BK332.out⟩, ⟨qb1_ GE332.out HB.out⟩⟩
   ·rw [if_neg c24] at H
    have c24b0 : (t326 == (-3)) = false := beq_eq_false_iff_ne.mpr c24
    have c24b1 : (t326 != (-3)) = true := bne_iff_ne.mpr c24
    have H' := Aside0.mk H
    clear H
    try go_wp2
    have n0_ := Aside0.mk (Kd.R_drew HO335.out)
    have n1_ := Aside0.mk (Kd.R_drew HO339.out)
    have n2_ := Aside0.mk (blk_drew BK332.out)
    have n3_ := Aside0.mk (below_drew1 HB.out)
    clear HO335
    clear HO339
    clear BK332
    clear HB
    have HO335 := n0_
    have HO339 := n1_
    have BK332 := n2_
    have HB := n3_
    clear n0_ n1_ n2_ n3_
    refine start_ (n := 28) (S := fun w' => True) (ds := []) (nb_ 28 0) (by kernel_rfl) rfl rfl trivial (fun hHeld => ?_); refine with_tabW corebanklaw02_liveP.tab7 corebanklaw02_liveP.bits7 (fun HT_ HW_ => ?_)
    generalize w22.drew = w40 at HO335 HO339 BK332 HB hHeld ⊢
    refine pz_ 0 43 (nb_ 28 1) HT_.out ?_
    refine pz_ 1 44 (nb_ 28 3) HT_.out ?_
    refine pz_ 2 45 (nb_ 28 7) HT_.out ?_
    refine pz_ 3 46 (nb_ 28 15) HT_.out ?_
    refine pz_ 4 47 (nb_ 28 31) HT_.out ?_
    refine pz_ 5 48 (nb_ 28 63) HT_.out ?_
    refine pz_ 6 49 (nb_ 28 127) HT_.out ?_
    refine pu_ 7 50 (nb_ 28 255) HT_.out ?_
    refine pu_ 8 51 (nb_ 28 511) HT_.out ?_
    refine pz_ 9 52 (nb_ 28 1023) HT_.out ?_
    refine pz_ 10 53 (nb_ 28 2047) HT_.out ?_
    refine pu_ 11 54 (nb_ 28 4095) HT_.out ?_
    refine pu_ 12 55 (nb_ 28 8191) HT_.out ?_
    refine pu_ 13 56 (nb_ 28 16383) HT_.out ?_
    refine pz_ 14 57 (nb_ 28 32767) HT_.out ?_
    refine pz_ 15 58 (nb_ 28 65535) HT_.out ?_
    refine pu_ 16 59 (nb_ 28 131071) HT_.out ?_
    refine pu_ 17 60 (nb_ 28 262143) HT_.out ?_
    refine pz_ 18 61 (nb_ 28 524287) HT_.out ?_
    refine pz_ 19 62 (nb_ 28 1048575) HT_.out ?_
    refine pu_ 20 63 (nb_ 28 2097151) HT_.out ?_
    refine pu_ 21 64 (nb_ 28 4194303) HT_.out ?_
    refine pz_ 22 65 (nb_ 28 8388607) HT_.out ?_
    refine pz_ 23 66 (nb_ 28 16777215) HT_.out ?_
    refine pu_ 24 67 (nb_ 28 33554431) HT_.out ?_
    refine pu_ 25 68 (nb_ 28 67108863) HT_.out ?_
    refine pu_ 26 69 (nb_ 28 134217727) HT_.out ?_
    refine pz_ 27 70 (nb_ 28 268435455) HT_.out ?_
    refine done_ (done_of HT_.out (by kernel_rfl)) ?_
    try go_wp2
    go_meet
    case rel => exact ⟨_, (true), qs_, H', ⟨qo_⟩, ⟨by (with_reducible repeat (first | apply Kd.R_alloc | apply Kd.R_drewN | apply Kd.R_drew)); exact Kd.R_mono HO339.out (fun _ hk => trivial)⟩, ⟨qk_ BK332.out⟩, ⟨qb1_ GE332.out HB.out⟩⟩
  ·rw [if_neg c23] at H
   have c23b0 : (t322 == (-2)) = false := beq_eq_false_iff_ne.mpr c23
   have c23b1 : (t322 != (-2)) = true := bne_iff_ne.mpr c23
   (first | rw [c23b0] | (simp only [i64_w, i32_w]; rw [c23b0]) | skip)
   have H' := Aside0.mk H
   clear H
   try go_wp2
   have n0_ := Aside0.mk (Kd.R_drew HO335.out)
   have n1_ := Aside0.mk (Kd.R_drew HO339.out)
   have n2_ := Aside0.mk (blk_drew BK332.out)
   have n3_ := Aside0.mk (below_drew1 HB.out)
   clear HO335
   clear HO339
   clear BK332
   clear HB
   have HO335 := n0_
   have HO339 := n1_
   have BK332 := n2_
   have HB := n3_
   clear n0_ n1_ n2_ n3_
   refine start_ (n := 28) (S := fun w' => True) (ds := []) (nb_ 28 0) (by kernel_rfl) rfl rfl trivial (fun hHeld => ?_); refine with_tabW corebanklaw02_liveP.tab7 corebanklaw02_liveP.bits7 (fun HT_ HW_ => ?_)
   generalize w22.drew = w41 at HO335 HO339 BK332 HB hHeld ⊢
   refine pz_ 0 43 (nb_ 28 1) HT_.out ?_
   refine pz_ 1 44 (nb_ 28 3) HT_.out ?_
   refine pz_ 2 45 (nb_ 28 7) HT_.out ?_
   refine pu_ 3 46 (nb_ 28 15) HT_.out ?_
   refine pu_ 4 47 (nb_ 28 31) HT_.out ?_
   refine pz_ 5 48 (nb_ 28 63) HT_.out ?_
   refine pz_ 6 49 (nb_ 28 127) HT_.out ?_
   refine pu_ 7 50 (nb_ 28 255) HT_.out ?_
   refine pu_ 8 51 (nb_ 28 511) HT_.out ?_
   refine pz_ 9 52 (nb_ 28 1023) HT_.out ?_
   refine pz_ 10 53 (nb_ 28 2047) HT_.out ?_
   refine pu_ 11 54 (nb_ 28 4095) HT_.out ?_
   refine pu_ 12 55 (nb_ 28 8191) HT_.out ?_
   refine pu_ 13 56 (nb_ 28 16383) HT_.out ?_
   refine pz_ 14 57 (nb_ 28 32767) HT_.out ?_
   refine pz_ 15 58 (nb_ 28 65535) HT_.out ?_
   refine pu_ 16 59 (nb_ 28 131071) HT_.out ?_
   refine pu_ 17 60 (nb_ 28 262143) HT_.out ?_
   refine pz_ 18 61 (nb_ 28 524287) HT_.out ?_
   refine pz_ 19 62 (nb_ 28 1048575) HT_.out ?_
   refine pu_ 20 63 (nb_ 28 2097151) HT_.out ?_
   refine pu_ 21 64 (nb_ 28 4194303) HT_.out ?_
   refine pz_ 22 65 (nb_ 28 8388607) HT_.out ?_
   refine pz_ 23 66 (nb_ 28 16777215) HT_.out ?_
   refine pu_ 24 67 (nb_ 28 33554431) HT_.out ?_
   refine pu_ 25 68 (nb_ 28 67108863) HT_.out ?_
   refine pu_ 26 69 (nb_ 28 134217727) HT_.out ?_
   refine pz_ 27 70 (nb_ 28 268435455) HT_.out ?_
   refine done_ (done_of HT_.out (by kernel_rfl)) ?_
   try go_wp2
   go_meet
   case rel => exact ⟨_, (true), qs_, H', ⟨qo_⟩, ⟨by (with_reducible repeat (first | apply Kd.R_alloc | apply Kd.R_drewN | apply Kd.R_drew)); exact Kd.R_mono HO339.out (fun _ hk => trivial)⟩, ⟨qk_ BK332.out⟩, ⟨qb1_ GE332.out HB.out⟩⟩
 case rest =>
  clear HC9
  try clear c2
  try clear p2
  try clear c23
  try clear c23b0
  try clear c23b1
  try clear c24
  try clear c24b0
  try clear c24b1
  obtain ⟨kq, x70_8, rfl, HA, HJ8, HO_8, BK332, HB⟩ := hcut
  cases kq with
  | zero => exact absurd HA.out (by simp [corebanklaw02_liveP.j0])
  | succ kj8 =>
   have H := HA.out
   clear HA
   simp only [corebanklaw02_liveP.j0] at H
   by_cases c42 : x70_8 = true
   ·subst c42
    have H1 : (some false) = some r := by rw [if_pos rfl] at H; exact H
    clear H
    have H := H1
    clear H1
    obtain rfl := Option.some.inj H
    go_wp2
    go_ret
    exact ⟨qe_, qb1_ GE332.out HB.out⟩
   ·replace c42 := Bool.eq_false_iff.mpr c42
    subst c42
    have H1 : (if t323 = 0 then (if t327 = 0 then (if t331 = 0 then (if t337 = 0 then (if t341 = 0 then (if t343 = 0 then (if 0 < (t336.length : Int) then (if (rd t336 0) = (-2) then (if 1 < (t336.length : Int) then (if (rd t336 1) = 0 then (if 2 < (t336.length : Int) then (if (rd t336 2) = (-5) then ((rounding_Valid.f 6).bind fun t349 => (some t349)) else (some false)) else (none)) else (some false)) else (none)) else (some false)) else (none)) else (some false)) else (some false)) else (some false)) else (some false)) else (some false)) else (some false)) = some r := by rw [if_neg (show ¬ (false = true) by decide)] at H; exact H
    clear H
    have H := H1
    clear H1
    by_cases c43 : t323 = 0
    ·rw [if_pos c43] at H
     have c43b0 : (t323 == 0) = true := beq_iff_eq.mpr c43
     have c43b1 : (t323 != 0) = false := bne_eq_false_iff_eq.mpr c43
     clear c43
     by_cases c44 : t327 = 0
     ·rw [if_pos c44] at H
      have c44b0 : (t327 == 0) = true := beq_iff_eq.mpr c44
      have c44b1 : (t327 != 0) = false := bne_eq_false_iff_eq.mpr c44
      clear c44
      by_cases c45 : t331 = 0
      ·rw [if_pos c45] at H
       have c45b0 : (t331 == 0) = true := beq_iff_eq.mpr c45
       have c45b1 : (t331 != 0) = false := bne_eq_false_iff_eq.mpr c45
       clear c45
       by_cases c46 : t337 = 0
       ·rw [if_pos c46] at H
        have c46b0 : (t337 == 0) = true := beq_iff_eq.mpr c46
        have c46b1 : (t337 != 0) = false := bne_eq_false_iff_eq.mpr c46
        clear c46
        by_cases c47 : t341 = 0
        ·rw [if_pos c47] at H
         have c47b0 : (t341 == 0) = true := beq_iff_eq.mpr c47
         have c47b1 : (t341 != 0) = false := bne_eq_false_iff_eq.mpr c47
         clear c47
         by_cases c48 : t343 = 0
         ·rw [if_pos c48] at H
          have c48b0 : (t343 == 0) = true := beq_iff_eq.mpr c48
          have c48b1 : (t343 != 0) = false := bne_eq_false_iff_eq.mpr c48
          clear c48
          by_cases c49 : 0 < (t336.length : Int)
          ·rw [if_pos c49] at H
           have c49b0 : decide (0 < (t336.length : Int)) = true := decide_eq_true c49
           have c49b1 : decide (0 < t336.length) = true := decide_eq_true (by omega)
           clear c49
           by_cases c50 : (rd t336 0) = (-2)
           ·rw [if_pos c50] at H
            have c50b0 : ((rd t336 0) == (-2)) = true := beq_iff_eq.mpr c50
            have c50b1 : ((rd t336 0) != (-2)) = false := bne_eq_false_iff_eq.mpr c50
            clear c50
            by_cases c51 : 1 < (t336.length : Int)
            ·rw [if_pos c51] at H
             have c51b0 : decide (1 < (t336.length : Int)) = true := decide_eq_true c51
             have c51b1 : decide (1 < t336.length) = true := decide_eq_true (by omega)
             clear c51
             by_cases c52 : (rd t336 1) = 0
             ·rw [if_pos c52] at H
              have c52b0 : ((rd t336 1) == 0) = true := beq_iff_eq.mpr c52
              have c52b1 : ((rd t336 1) != 0) = false := bne_eq_false_iff_eq.mpr c52
              clear c52
              by_cases c53 : 2 < (t336.length : Int)
              ·rw [if_pos c53] at H
               have c53b0 : decide (2 < (t336.length : Int)) = true := decide_eq_true c53
               have c53b1 : decide (2 < t336.length) = true := decide_eq_true (by omega)
               clear c53
               by_cases c54 : (rd t336 2) = (-5)
               ·rw [if_pos c54] at H
                have c54b0 : ((rd t336 2) == (-5)) = true := beq_iff_eq.mpr c54
                have c54b1 : ((rd t336 2) != (-5)) = false := bne_eq_false_iff_eq.mpr c54
                clear c54
                replace H := Option.bind_eq_some_iff.mp H
                obtain ⟨t349, A550, H⟩ := H
                replace H : (some t349) = some r := H
                have A55 := Aside0.mk A550
                clear A550
                obtain rfl := Option.some.inj H
                obtain ⟨Ao56, co56, eo56⟩ := Kd.R_slice HO_8.out
                subst eo56
                have p346 : 0 ≤ (0 : Int) := (by omega)
                have q346 : 0 < (t336.length : Int) := of_decide_eq_true (by first | (with_reducible assumption) | assumption)
                obtain ⟨ad346, e346, hx346_0⟩ := Kd.at_int (Kd.R_reads' HO_8.out).2.2 0 p346 q346
                cases e346
                have qi346 : (0 < t336.length) = True := eq_true (by omega)
                (try rw [show ((0 : Int)).toNat = 0 from rfl] at hx346_0)
                (try rw [Addr.add_zero'] at hx346_0)
                replace p346 := eq_true p346
                replace q346 := eq_true q346
                have p347 : 0 ≤ (1 : Int) := (by omega)
                have q347 : 1 < (t336.length : Int) := of_decide_eq_true (by first | (with_reducible assumption) | assumption)
                obtain ⟨ad347, e347, hx347_0⟩ := Kd.at_int (Kd.R_reads' HO_8.out).2.2 1 p347 q347
                obtain rfl : ad346 = ad347 := (by injection e347)
                (try simp only [show (1 : Int).toNat = 1 from rfl, Nat.reduceMul, Nat.reduceEqDiff, Go.Addr.add, ↓reduceIte] at hx347_0)
                have qi347 : (1 < t336.length) = True := eq_true (by omega)
                (try rw [show ((1 : Int)).toNat = 1 from rfl] at hx347_0)
                replace p347 := eq_true p347
                replace q347 := eq_true q347
                have p348 : 0 ≤ (2 : Int) := (by omega)
                have q348 : 2 < (t336.length : Int) := of_decide_eq_true (by first | (with_reducible assumption) | assumption)
                obtain ⟨ad348, e348, hx348_0⟩ := Kd.at_int (Kd.R_reads' HO_8.out).2.2 2 p348 q348
                obtain rfl : ad346 = ad348 := (by injection e348)
                (try simp only [show (2 : Int).toNat = 2 from rfl, Nat.reduceMul, Nat.reduceEqDiff, Go.Addr.add, ↓reduceIte] at hx348_0)
                have qi348 : (2 < t336.length) = True := eq_true (by omega)
                (try rw [show ((2 : Int)).toNat = 2 from rfl] at hx348_0)
                replace p348 := eq_true p348
                replace q348 := eq_true q348
                go_wp2_with (first | (go_at_call 13; (with_reducible refine (rounding_Valid.calls 6 t349 _ A55.out).mono ?_); rintro e w' ⟨rfl, ⟨nd, rfl⟩⟩))
                go_ret
                exact ⟨qe_, qb1_ GE332.out HB.out⟩
               ·rw [if_neg c54] at H
                have c54b0 : ((rd t336 2) == (-5)) = false := beq_eq_false_iff_ne.mpr c54
                have c54b1 : ((rd t336 2) != (-5)) = true := bne_iff_ne.mpr c54
                obtain rfl := Option.some.inj H
                obtain ⟨Ao57, co57, eo57⟩ := Kd.R_slice HO_8.out
                subst eo57
                have p346 : 0 ≤ (0 : Int) := (by omega)
                have q346 : 0 < (t336.length : Int) := of_decide_eq_true (by first | (with_reducible assumption) | assumption)
                obtain ⟨ad346, e346, hx346_0⟩ := Kd.at_int (Kd.R_reads' HO_8.out).2.2 0 p346 q346
                cases e346
                have qi346 : (0 < t336.length) = True := eq_true (by omega)
                (try rw [show ((0 : Int)).toNat = 0 from rfl] at hx346_0)
                (try rw [Addr.add_zero'] at hx346_0)
                replace p346 := eq_true p346
                replace q346 := eq_true q346
                have p347 : 0 ≤ (1 : Int) := (by omega)
                have q347 : 1 < (t336.length : Int) := of_decide_eq_true (by first | (with_reducible assumption) | assumption)
                obtain ⟨ad347, e347, hx347_0⟩ := Kd.at_int (Kd.R_reads' HO_8.out).2.2 1 p347 q347
                obtain rfl : ad346 = ad347 := (by injection e347)
                (try simp only [show (1 : Int).toNat = 1 from rfl, Nat.reduceMul, Nat.reduceEqDiff, Go.Addr.add, ↓reduceIte] at hx347_0)
                have qi347 : (1 < t336.length) = True := eq_true (by omega)
                (try rw [show ((1 : Int)).toNat = 1 from rfl] at hx347_0)
                replace p347 := eq_true p347
                replace q347 := eq_true q347
                have p348 : 0 ≤ (2 : Int) := (by omega)
                have q348 : 2 < (t336.length : Int) := of_decide_eq_true (by first | (with_reducible assumption) | assumption)
                obtain ⟨ad348, e348, hx348_0⟩ := Kd.at_int (Kd.R_reads' HO_8.out).2.2 2 p348 q348
                obtain rfl : ad346 = ad348 := (by injection e348)
                (try simp only [show (2 : Int).toNat = 2 from rfl, Nat.reduceMul, Nat.reduceEqDiff, Go.Addr.add, ↓reduceIte] at hx348_0)
                have qi348 : (2 < t336.length) = True := eq_true (by omega)
                (try rw [show ((2 : Int)).toNat = 2 from rfl] at hx348_0)
                replace p348 := eq_true p348
                replace q348 := eq_true q348
                go_wp2
                go_ret
                exact ⟨qe_, qb1_ GE332.out HB.out⟩
              ·rw [if_neg c53] at H
               exact absurd H (by simp)
             ·rw [if_neg c52] at H
              have c52b0 : ((rd t336 1) == 0) = false := beq_eq_false_iff_ne.mpr c52
              have c52b1 : ((rd t336 1) != 0) = true := bne_iff_ne.mpr c52
              obtain rfl := Option.some.inj H
              obtain ⟨Ao58, co58, eo58⟩ := Kd.R_slice HO_8.out
              subst eo58
              have p346 : 0 ≤ (0 : Int) := (by omega)
              have q346 : 0 < (t336.length : Int) := of_decide_eq_true (by first | (with_reducible assumption) | assumption)
              obtain ⟨ad346, e346, hx346_0⟩ := Kd.at_int (Kd.R_reads' HO_8.out).2.2 0 p346 q346
              cases e346
              have qi346 : (0 < t336.length) = True := eq_true (by omega)
              (try rw [show ((0 : Int)).toNat = 0 from rfl] at hx346_0)
              (try rw [Addr.add_zero'] at hx346_0)
              replace p346 := eq_true p346
              replace q346 := eq_true q346
              have p347 : 0 ≤ (1 : Int) := (by omega)
              have q347 : 1 < (t336.length : Int) := of_decide_eq_true (by first | (with_reducible assumption) | assumption)
              obtain ⟨ad347, e347, hx347_0⟩ := Kd.at_int (Kd.R_reads' HO_8.out).2.2 1 p347 q347
              obtain rfl : ad346 = ad347 := (by injection e347)
              (try simp only [show (1 : Int).toNat = 1 from rfl, Nat.reduceMul, Nat.reduceEqDiff, Go.Addr.add, ↓reduceIte] at hx347_0)
              have qi347 : (1 < t336.length) = True := eq_true (by omega)
              (try rw [show ((1 : Int)).toNat = 1 from rfl] at hx347_0)
              replace p347 := eq_true p347
              replace q347 := eq_true q347
              go_wp2
              go_ret
              exact ⟨qe_, qb1_ GE332.out HB.out⟩
            ·rw [if_neg c51] at H
             exact absurd H (by simp)
           ·rw [if_neg c50] at H
            have c50b0 : ((rd t336 0) == (-2)) = false := beq_eq_false_iff_ne.mpr c50
            have c50b1 : ((rd t336 0) != (-2)) = true := bne_iff_ne.mpr c50
            obtain rfl := Option.some.inj H
            obtain ⟨Ao59, co59, eo59⟩ := Kd.R_slice HO_8.out
            subst eo59
            have p346 : 0 ≤ (0 : Int) := (by omega)
            have q346 : 0 < (t336.length : Int) := of_decide_eq_true (by first | (with_reducible assumption) | assumption)
            obtain ⟨ad346, e346, hx346_0⟩ := Kd.at_int (Kd.R_reads' HO_8.out).2.2 0 p346 q346
            cases e346
            have qi346 : (0 < t336.length) = True := eq_true (by omega)
            (try rw [show ((0 : Int)).toNat = 0 from rfl] at hx346_0)
            (try rw [Addr.add_zero'] at hx346_0)
            replace p346 := eq_true p346
            replace q346 := eq_true q346
            go_wp2
            go_ret
            exact ⟨qe_, qb1_ GE332.out HB.out⟩
          ·rw [if_neg c49] at H
           exact absurd H (by simp)
         ·rw [if_neg c48] at H
          have c48b0 : (t343 == 0) = false := beq_eq_false_iff_ne.mpr c48
          have c48b1 : (t343 != 0) = true := bne_iff_ne.mpr c48
          obtain rfl := Option.some.inj H
          go_wp2
          go_ret
          exact ⟨qe_, qb1_ GE332.out HB.out⟩
        ·rw [if_neg c47] at H
         have c47b0 : (t341 == 0) = false := beq_eq_false_iff_ne.mpr c47
         have c47b1 : (t341 != 0) = true := bne_iff_ne.mpr c47
         obtain rfl := Option.some.inj H
         go_wp2
         go_ret
         exact ⟨qe_, qb1_ GE332.out HB.out⟩
       ·rw [if_neg c46] at H
        have c46b0 : (t337 == 0) = false := beq_eq_false_iff_ne.mpr c46
        have c46b1 : (t337 != 0) = true := bne_iff_ne.mpr c46
        obtain rfl := Option.some.inj H
        go_wp2
        go_ret
        exact ⟨qe_, qb1_ GE332.out HB.out⟩
      ·rw [if_neg c45] at H
       have c45b0 : (t331 == 0) = false := beq_eq_false_iff_ne.mpr c45
       have c45b1 : (t331 != 0) = true := bne_iff_ne.mpr c45
       obtain rfl := Option.some.inj H
       go_wp2
       go_ret
       exact ⟨qe_, qb1_ GE332.out HB.out⟩
     ·rw [if_neg c44] at H
      have c44b0 : (t327 == 0) = false := beq_eq_false_iff_ne.mpr c44
      have c44b1 : (t327 != 0) = true := bne_iff_ne.mpr c44
      obtain rfl := Option.some.inj H
      go_wp2
      go_ret
      exact ⟨qe_, qb1_ GE332.out HB.out⟩
    ·rw [if_neg c43] at H
     have c43b0 : (t323 == 0) = false := beq_eq_false_iff_ne.mpr c43
     have c43b1 : (t323 != 0) = true := bne_iff_ne.mpr c43
     obtain rfl := Option.some.inj H
     go_wp2
     go_ret
     exact ⟨qe_, qb1_ GE332.out HB.out⟩
end Go.Proofs.YtkdhippoibjfkaaDoor.PR
end
section
namespace Go.Proofs.YtkdhippoibjfkaaDoor.PR
open Go.RowKit Go.Proofs.YtkdhippoibjfkaaDoorW.PrintWords Go.Proofs.YtkdhippoibjfkaaDoorW.PrintLast
set_option linter.unusedVariables false
set_option linter.unusedSimpArgs false
attribute [local go_sem high] eqA24
def corebanklaw02_live.f : Option Bool := some true
set_option maxRecDepth 100000 in
theorem corebanklaw02_live.eq {r : Bool} (h : corebanklaw02_live.f = some r) : ∃ k, corebanklaw02_liveP.f k = some r := by
 unfold corebanklaw02_live.f at h
 rw [← h]
 exact ⟨40, by decide +kernel⟩
theorem corebanklaw02_live.calls (r : Bool) (w : World) (hG : GW w) (h : corebanklaw02_live.f  = some r) :
  Calls Tryd.prog 15 #[] w fun e w' => e = .returned (.bool r) ∧ Below w.heap.size w w' := by
 obtain ⟨k, h⟩ := corebanklaw02_live.eq h
 exact corebanklaw02_liveP.calls k r w hG h
def corebanklaw02_RoundingDivides.f (a0_0 : Int) (a0_1 : Int) (a1 : Int) (a2 : Int) : Option (Bool) := (rounding_Divide.f a0_0 a0_1 a1 a2).bind fun bt351 => ((corebankref02_Divide.f a0_0 a0_1 a1 a2).bind fun bt353 => (if bt351.1 = bt353.1 then (if bt351.2 = bt353.2 then ((rounding_Valid.f a2).bind fun t355 => ((corebankref02_Valid.f a2).bind fun t356 => (if (t355 == t356) = true then ((corebanklaw02_live.f).bind fun t357 => (some t357)) else (some false)))) else (some false)) else (some false)))
set_option maxHeartbeats 8000000 in
set_option maxRecDepth 100000 in
theorem corebanklaw02_RoundingDivides.calls (a0_0 : Int) (a0_1 : Int) (a1 : Int) (a2 : Int) (r : Bool) (w : World) (hG : GW w) (h : corebanklaw02_RoundingDivides.f a0_0 a0_1 a1 a2 = some r) :
  Calls Tryd.prog 3 #[.agg #[.int .i64 a0_0, .int .u64 a0_1], .int .i64 a1, .int .i64 a2] w fun e w' => e = .returned (.bool r) ∧ Below w.heap.size w w' := by
 have hu24 := Tryd.underlying24
 have HB := Aside0.mk (Below.refl w.heap.size w)
 have H : ((rounding_Divide.f a0_0 a0_1 a1 a2).bind fun bt351 => ((corebankref02_Divide.f a0_0 a0_1 a1 a2).bind fun bt353 => (if bt351.1 = bt353.1 then (if bt351.2 = bt353.2 then ((rounding_Valid.f a2).bind fun t355 => ((corebankref02_Valid.f a2).bind fun t356 => (if (t355 == t356) = true then ((corebanklaw02_live.f).bind fun t357 => (some t357)) else (some false)))) else (some false)) else (some false)))) = some r := h
 clear h
 replace H := Option.bind_eq_some_iff.mp H
 obtain ⟨⟨t351, t352⟩, A40, H⟩ := H
 replace H : ((corebankref02_Divide.f a0_0 a0_1 a1 a2).bind fun bt353 => (if t351 = bt353.1 then (if t352 = bt353.2 then ((rounding_Valid.f a2).bind fun t355 => ((corebankref02_Valid.f a2).bind fun t356 => (if (t355 == t356) = true then ((corebanklaw02_live.f).bind fun t357 => (some t357)) else (some false)))) else (some false)) else (some false))) = some r := H
 have A4 := Aside0.mk A40
 clear A40
 replace H := Option.bind_eq_some_iff.mp H
 obtain ⟨⟨t353, t354⟩, A50, H⟩ := H
 replace H : (if t351 = t353 then (if t352 = t354 then ((rounding_Valid.f a2).bind fun t355 => ((corebankref02_Valid.f a2).bind fun t356 => (if (t355 == t356) = true then ((corebanklaw02_live.f).bind fun t357 => (some t357)) else (some false)))) else (some false)) else (some false)) = some r := H
 have A5 := Aside0.mk A50
 clear A50
 by_cases c6 : t351 = t353
 ·rw [if_pos c6] at H
  have c6b0 : (t351 == t353) = true := beq_iff_eq.mpr c6
  have c6b1 : (t351 != t353) = false := bne_eq_false_iff_eq.mpr c6
  clear c6
  by_cases c7 : t352 = t354
  ·rw [if_pos c7] at H
   have c7b0 : (t352 == t354) = true := beq_iff_eq.mpr c7
   have c7b1 : (t352 != t354) = false := bne_eq_false_iff_eq.mpr c7
   clear c7
   replace H := Option.bind_eq_some_iff.mp H
   obtain ⟨t355, A80, H⟩ := H
   replace H : ((corebankref02_Valid.f a2).bind fun t356 => (if (t355 == t356) = true then ((corebanklaw02_live.f).bind fun t357 => (some t357)) else (some false))) = some r := H
   have A8 := Aside0.mk A80
   clear A80
   replace H := Option.bind_eq_some_iff.mp H
   obtain ⟨t356, A90, H⟩ := H
   replace H : (if (t355 == t356) = true then ((corebanklaw02_live.f).bind fun t357 => (some t357)) else (some false)) = some r := H
   have A9 := Aside0.mk A90
   clear A90
   by_cases c10 : (t355 == t356) = true
   ·rw [if_pos c10] at H
    have c10b0 : (t355 == t356) = true := c10
    (try (have c10b1 : decide (t355 = t356) = true := by simpa using c10))
    (try (have c10b2 : (t355 == t356) = true := by simpa using c10))
    clear c10
    replace H := Option.bind_eq_some_iff.mp H
    obtain ⟨t357, A110, H⟩ := H
    replace H : (some t357) = some r := H
    have A11 := Aside0.mk A110
    clear A110
    obtain rfl := Option.some.inj H
    go_enter Tryd.func3, Tryd.ntmps3
    go_wp2_with (first | ((with_reducible refine gate_dst (N := 3) rfl ?_); refine be_ (N := 3) (cs := #[.int .i64 a0_0, .int .u64 a0_1]) (t := 24) ?_; intro gb350 hg w12 hbox hb; have n0_ := Aside0.mk (below_step (qb_ HB.out) hb); have n1_ := Aside0.mk (hbox); have n2_ := Aside0.mk (bz_ hg (qb_ HB.out) : w.heap.size ≤ gb350); have n3_ := n2_; clear HB; have HB := n0_; have BK350 := n1_; have GW350 := n2_; have GE350 := n3_; clear n0_ n1_ n2_ n3_; clear hb hbox hg; have hcz13_0 : w12.cell? ⟨gb350, 0, none⟩ = some (.int .i64 a0_0) := (blk_cell BK350.out 0).trans rfl; have hcz13_1 : w12.cell? ⟨gb350, 1, none⟩ = some (.int .u64 a0_1) := (blk_cell BK350.out 1).trans rfl; have hfz13_0 := blk_frozen BK350.out 0; have hfz13_1 := blk_frozen BK350.out 1) | ((with_reducible refine gate_callee (f := 11) rfl ?_); refine goesL_ (some 15) rfl rfl Tryd.func11 (by kernel_rfl) rfl #[.agg #[.int .i64 a0_0, .int .u64 a0_1], .int .i64 a1, .int .i64 a2] rfl ql_ ?_; (with_reducible refine (rounding_Divide.calls (hG := by first | exact hG | (with_reducible exact GW.below hG (qb1_ GE350.out HB.out)) | (with_reducible repeat (first | exact hG | apply GW.drewN | apply GW.drew))) a0_0 a0_1 a1 a2 t351 t352 _ A4.out).mono ?_); rintro e w14 ⟨rfl, hb⟩; refine ⟨_, rfl, ?_⟩; have n0_ := Aside0.mk (blk_below (qk_ BK350.out) hb); have n1_ := Aside0.mk (below_step (qb1_ GE350.out HB.out) hb); clear BK350; clear HB; have BK350 := n0_; have HB := n1_; clear n0_ n1_; (try clear hb); (try clear hb2); (try clear hk); (try clear hi); have hcz15_0 : w14.cell? ⟨gb350, 0, none⟩ = some (.int .i64 a0_0) := (blk_cell BK350.out 0).trans rfl; have hcz15_1 : w14.cell? ⟨gb350, 1, none⟩ = some (.int .u64 a0_1) := (blk_cell BK350.out 1).trans rfl; have hfz15_0 := blk_frozen BK350.out 0; have hfz15_1 := blk_frozen BK350.out 1) | ((with_reducible refine gate_callee (f := 12) rfl ?_); refine goesL_ (some 22) rfl rfl Tryd.func12 (by kernel_rfl) rfl #[.agg #[.int .i64 a0_0, .int .u64 a0_1], .int .i64 a1, .int .i64 a2] rfl ql_ ?_; (with_reducible refine (corebankref02_Divide.calls a0_0 a0_1 a1 a2 t353 t354 _ A5.out).mono ?_); rintro e w16 ⟨rfl, hb⟩; refine ⟨_, rfl, ?_⟩; have n0_ := Aside0.mk (blk_below (qk_ BK350.out) hb); have n1_ := Aside0.mk (below_step (qb1_ GE350.out HB.out) hb); clear BK350; clear HB; have BK350 := n0_; have HB := n1_; clear n0_ n1_; (try clear hb); (try clear hb2); (try clear hk); (try clear hi)) | (go_at_call 13; (with_reducible refine (rounding_Valid.calls a2 t355 _ A8.out).mono ?_); rintro e w' ⟨rfl, ⟨nd, rfl⟩⟩) | (go_at_call 14; (with_reducible refine (corebankref02_Valid.calls a2 t356 _ A9.out).mono ?_); rintro e w' ⟨rfl, ⟨nd, rfl⟩⟩) | (go_at_call 15; (with_reducible refine (corebanklaw02_live.calls (hG := by first | exact hG | (with_reducible exact GW.below hG (qb1_ GE350.out HB.out)) | (with_reducible repeat (first | exact hG | apply GW.drewN | apply GW.drew)))  t357 _ A11.out).mono ?_); rintro e w17 ⟨rfl, hb⟩; have n0_ := Aside0.mk (blk_below (qk_ BK350.out) hb); have n1_ := Aside0.mk (below_step (qb1_ GE350.out HB.out) hb); clear BK350; clear HB; have BK350 := n0_; have HB := n1_; clear n0_ n1_; (try clear hb); (try clear hb2); (try clear hk); (try clear hi)))
    go_ret
    exact ⟨qe_, qb1_ GE350.out HB.out⟩
   ·rw [if_neg c10] at H
    have c10b0 : (t355 == t356) = false := by simpa using c10
    (try (have c10b1 : decide (t355 = t356) = false := by simpa using c10))
    (try (have c10b2 : (t355 == t356) = false := by simpa using c10))
    (try (have c10b3 : ¬ (t355 = t356) := by simpa using c10))
    clear c10
    obtain rfl := Option.some.inj H
    go_enter Tryd.func3, Tryd.ntmps3
    go_wp2_with (first | ((with_reducible refine gate_dst (N := 3) rfl ?_); refine be_ (N := 3) (cs := #[.int .i64 a0_0, .int .u64 a0_1]) (t := 24) ?_; intro gb350 hg w18 hbox hb; have n0_ := Aside0.mk (below_step (qb_ HB.out) hb); have n1_ := Aside0.mk (hbox); have n2_ := Aside0.mk (bz_ hg (qb_ HB.out) : w.heap.size ≤ gb350); have n3_ := n2_; clear HB; have HB := n0_; have BK350 := n1_; have GW350 := n2_; have GE350 := n3_; clear n0_ n1_ n2_ n3_; clear hb hbox hg; have hcz19_0 : w18.cell? ⟨gb350, 0, none⟩ = some (.int .i64 a0_0) := (blk_cell BK350.out 0).trans rfl; have hcz19_1 : w18.cell? ⟨gb350, 1, none⟩ = some (.int .u64 a0_1) := (blk_cell BK350.out 1).trans rfl; have hfz19_0 := blk_frozen BK350.out 0; have hfz19_1 := blk_frozen BK350.out 1) | ((with_reducible refine gate_callee (f := 11) rfl ?_); refine goesL_ (some 15) rfl rfl Tryd.func11 (by kernel_rfl) rfl #[.agg #[.int .i64 a0_0, .int .u64 a0_1], .int .i64 a1, .int .i64 a2] rfl ql_ ?_; (with_reducible refine (rounding_Divide.calls (hG := by first | exact hG | (with_reducible exact GW.below hG (qb1_ GE350.out HB.out)) | (with_reducible repeat (first | exact hG | apply GW.drewN | apply GW.drew))) a0_0 a0_1 a1 a2 t351 t352 _ A4.out).mono ?_); rintro e w20 ⟨rfl, hb⟩; refine ⟨_, rfl, ?_⟩; have n0_ := Aside0.mk (blk_below (qk_ BK350.out) hb); have n1_ := Aside0.mk (below_step (qb1_ GE350.out HB.out) hb); clear BK350; clear HB; have BK350 := n0_; have HB := n1_; clear n0_ n1_; (try clear hb); (try clear hb2); (try clear hk); (try clear hi); have hcz21_0 : w20.cell? ⟨gb350, 0, none⟩ = some (.int .i64 a0_0) := (blk_cell BK350.out 0).trans rfl; have hcz21_1 : w20.cell? ⟨gb350, 1, none⟩ = some (.int .u64 a0_1) := (blk_cell BK350.out 1).trans rfl; have hfz21_0 := blk_frozen BK350.out 0; have hfz21_1 := blk_frozen BK350.out 1) | ((with_reducible refine gate_callee (f := 12) rfl ?_); refine goesL_ (some 22) rfl rfl Tryd.func12 (by kernel_rfl) rfl #[.agg #[.int .i64 a0_0, .int .u64 a0_1], .int .i64 a1, .int .i64 a2] rfl ql_ ?_; (with_reducible refine (corebankref02_Divide.calls a0_0 a0_1 a1 a2 t353 t354 _ A5.out).mono ?_); rintro e w22 ⟨rfl, hb⟩; refine ⟨_, rfl, ?_⟩; have n0_ := Aside0.mk (blk_below (qk_ BK350.out) hb); have n1_ := Aside0.mk (below_step (qb1_ GE350.out HB.out) hb); clear BK350; clear HB; have BK350 := n0_; have HB := n1_; clear n0_ n1_; (try clear hb); (try clear hb2); (try clear hk); (try clear hi)) | (go_at_call 13; (with_reducible refine (rounding_Valid.calls a2 t355 _ A8.out).mono ?_); rintro e w' ⟨rfl, ⟨nd, rfl⟩⟩) | (go_at_call 14; (with_reducible refine (corebankref02_Valid.calls a2 t356 _ A9.out).mono ?_); rintro e w' ⟨rfl, ⟨nd, rfl⟩⟩))
    go_ret
    exact ⟨qe_, qb1_ GE350.out HB.out⟩
  ·rw [if_neg c7] at H
   have c7b0 : (t352 == t354) = false := beq_eq_false_iff_ne.mpr c7
   have c7b1 : (t352 != t354) = true := bne_iff_ne.mpr c7
   obtain rfl := Option.some.inj H
   go_enter Tryd.func3, Tryd.ntmps3
   go_wp2_with (first | ((with_reducible refine gate_dst (N := 3) rfl ?_); refine be_ (N := 3) (cs := #[.int .i64 a0_0, .int .u64 a0_1]) (t := 24) ?_; intro gb350 hg w23 hbox hb; have n0_ := Aside0.mk (below_step (qb_ HB.out) hb); have n1_ := Aside0.mk (hbox); have n2_ := Aside0.mk (bz_ hg (qb_ HB.out) : w.heap.size ≤ gb350); have n3_ := n2_; clear HB; have HB := n0_; have BK350 := n1_; have GW350 := n2_; have GE350 := n3_; clear n0_ n1_ n2_ n3_; clear hb hbox hg; have hcz24_0 : w23.cell? ⟨gb350, 0, none⟩ = some (.int .i64 a0_0) := (blk_cell BK350.out 0).trans rfl; have hcz24_1 : w23.cell? ⟨gb350, 1, none⟩ = some (.int .u64 a0_1) := (blk_cell BK350.out 1).trans rfl; have hfz24_0 := blk_frozen BK350.out 0; have hfz24_1 := blk_frozen BK350.out 1) | ((with_reducible refine gate_callee (f := 11) rfl ?_); refine goesL_ (some 15) rfl rfl Tryd.func11 (by kernel_rfl) rfl #[.agg #[.int .i64 a0_0, .int .u64 a0_1], .int .i64 a1, .int .i64 a2] rfl ql_ ?_; (with_reducible refine (rounding_Divide.calls (hG := by first | exact hG | (with_reducible exact GW.below hG (qb1_ GE350.out HB.out)) | (with_reducible repeat (first | exact hG | apply GW.drewN | apply GW.drew))) a0_0 a0_1 a1 a2 t351 t352 _ A4.out).mono ?_); rintro e w25 ⟨rfl, hb⟩; refine ⟨_, rfl, ?_⟩; have n0_ := Aside0.mk (blk_below (qk_ BK350.out) hb); have n1_ := Aside0.mk (below_step (qb1_ GE350.out HB.out) hb); clear BK350; clear HB; have BK350 := n0_; have HB := n1_; clear n0_ n1_; (try clear hb); (try clear hb2); (try clear hk); (try clear hi); have hcz26_0 : w25.cell? ⟨gb350, 0, none⟩ = some (.int .i64 a0_0) := (blk_cell BK350.out 0).trans rfl; have hcz26_1 : w25.cell? ⟨gb350, 1, none⟩ = some (.int .u64 a0_1) := (blk_cell BK350.out 1).trans rfl; have hfz26_0 := blk_frozen BK350.out 0; have hfz26_1 := blk_frozen BK350.out 1) | ((with_reducible refine gate_callee (f := 12) rfl ?_); refine goesL_ (some 22) rfl rfl Tryd.func12 (by kernel_rfl) rfl #[.agg #[.int .i64 a0_0, .int .u64 a0_1], .int .i64 a1, .int .i64 a2] rfl ql_ ?_; (with_reducible refine (corebankref02_Divide.calls a0_0 a0_1 a1 a2 t353 t354 _ A5.out).mono ?_); rintro e w27 ⟨rfl, hb⟩; refine ⟨_, rfl, ?_⟩; have n0_ := Aside0.mk (blk_below (qk_ BK350.out) hb); have n1_ := Aside0.mk (below_step (qb1_ GE350.out HB.out) hb); clear BK350; clear HB; have BK350 := n0_; have HB := n1_; clear n0_ n1_; (try clear hb); (try clear hb2); (try clear hk); (try clear hi)))
   go_ret
   exact ⟨qe_, qb1_ GE350.out HB.out⟩
 ·rw [if_neg c6] at H
  have c6b0 : (t351 == t353) = false := beq_eq_false_iff_ne.mpr c6
  have c6b1 : (t351 != t353) = true := bne_iff_ne.mpr c6
  obtain rfl := Option.some.inj H
  go_enter Tryd.func3, Tryd.ntmps3
  go_wp2_with (first | ((with_reducible refine gate_dst (N := 3) rfl ?_); refine be_ (N := 3) (cs := #[.int .i64 a0_0, .int .u64 a0_1]) (t := 24) ?_; intro gb350 hg w28 hbox hb; have n0_ := Aside0.mk (below_step (qb_ HB.out) hb); have n1_ := Aside0.mk (hbox); have n2_ := Aside0.mk (bz_ hg (qb_ HB.out) : w.heap.size ≤ gb350); have n3_ := n2_; clear HB; have HB := n0_; have BK350 := n1_; have GW350 := n2_; have GE350 := n3_; clear n0_ n1_ n2_ n3_; clear hb hbox hg; have hcz29_0 : w28.cell? ⟨gb350, 0, none⟩ = some (.int .i64 a0_0) := (blk_cell BK350.out 0).trans rfl; have hcz29_1 : w28.cell? ⟨gb350, 1, none⟩ = some (.int .u64 a0_1) := (blk_cell BK350.out 1).trans rfl; have hfz29_0 := blk_frozen BK350.out 0; have hfz29_1 := blk_frozen BK350.out 1) | ((with_reducible refine gate_callee (f := 11) rfl ?_); refine goesL_ (some 15) rfl rfl Tryd.func11 (by kernel_rfl) rfl #[.agg #[.int .i64 a0_0, .int .u64 a0_1], .int .i64 a1, .int .i64 a2] rfl ql_ ?_; (with_reducible refine (rounding_Divide.calls (hG := by first | exact hG | (with_reducible exact GW.below hG (qb1_ GE350.out HB.out)) | (with_reducible repeat (first | exact hG | apply GW.drewN | apply GW.drew))) a0_0 a0_1 a1 a2 t351 t352 _ A4.out).mono ?_); rintro e w30 ⟨rfl, hb⟩; refine ⟨_, rfl, ?_⟩; have n0_ := Aside0.mk (blk_below (qk_ BK350.out) hb); have n1_ := Aside0.mk (below_step (qb1_ GE350.out HB.out) hb); clear BK350; clear HB; have BK350 := n0_; have HB := n1_; clear n0_ n1_; (try clear hb); (try clear hb2); (try clear hk); (try clear hi); have hcz31_0 : w30.cell? ⟨gb350, 0, none⟩ = some (.int .i64 a0_0) := (blk_cell BK350.out 0).trans rfl; have hcz31_1 : w30.cell? ⟨gb350, 1, none⟩ = some (.int .u64 a0_1) := (blk_cell BK350.out 1).trans rfl; have hfz31_0 := blk_frozen BK350.out 0; have hfz31_1 := blk_frozen BK350.out 1) | ((with_reducible refine gate_callee (f := 12) rfl ?_); refine goesL_ (some 22) rfl rfl Tryd.func12 (by kernel_rfl) rfl #[.agg #[.int .i64 a0_0, .int .u64 a0_1], .int .i64 a1, .int .i64 a2] rfl ql_ ?_; (with_reducible refine (corebankref02_Divide.calls a0_0 a0_1 a1 a2 t353 t354 _ A5.out).mono ?_); rintro e w32 ⟨rfl, hb⟩; refine ⟨_, rfl, ?_⟩; have n0_ := Aside0.mk (blk_below (qk_ BK350.out) hb); have n1_ := Aside0.mk (below_step (qb1_ GE350.out HB.out) hb); clear BK350; clear HB; have BK350 := n0_; have HB := n1_; clear n0_ n1_; (try clear hb); (try clear hb2); (try clear hk); (try clear hi)))
  go_ret
  exact ⟨qe_, qb1_ GE350.out HB.out⟩
mutual
def corebankref01_timesP.l0 : Nat → Int → Bool → Int → Int → Int → Int → Int → Option (Int × Int × Bool)
 | 0, _, _, _, _, _, _, _ => none
 | k + 1, x1, x7, x8, x359000, x359001, x361000, x361001 => if x8 < 64 then ((corebankref01_plus.f x361000 x361001 x361000 x361001).bind fun bt361 => (if x7 = true then (corebankref01_timesP.j1 k x1 bt361.2.2 x8 x359000 x359001 bt361.1 bt361.2.1) else (corebankref01_timesP.j1 k x1 false x8 x359000 x359001 bt361.1 bt361.2.1))) else (some (x361000, x361001, x7))
def corebankref01_timesP.j1 : Nat → Int → Bool → Int → Int → Int → Int → Int → Option (Int × Int × Bool)
 | 0, _, _, _, _, _, _, _ => none
 | k + 1, x1, x7, x8, x359000, x359001, x361000, x361001 => if (Go.bits .and .u64 x1 9223372036854775808) = 0 then (corebankref01_timesP.l0 k (IntKind.u64.wrap (x1 * 2)) x7 (wrap64 (x8 + 1)) x359000 x359001 x361000 x361001) else ((corebankref01_plus.f x361000 x361001 x359000 x359001).bind fun bt365 => (if x7 = true then (corebankref01_timesP.l0 k (IntKind.u64.wrap (x1 * 2)) bt365.2.2 (wrap64 (x8 + 1)) x359000 x359001 bt365.1 bt365.2.1) else (corebankref01_timesP.l0 k (IntKind.u64.wrap (x1 * 2)) false (wrap64 (x8 + 1)) x359000 x359001 bt365.1 bt365.2.1)))
end
def corebankref01_timesP.f (k : Nat) (a0_0 : Int) (a0_1 : Int) (a1 : Int) : Option (Int × Int × Bool) := corebankref01_timesP.l0 k a1 true 0 a0_0 a0_1 0 0
theorem corebankref01_timesP.mono_l : ∀ k, (∀ y0 y1 y2 y3 y4 y5 y6, LeO (corebankref01_timesP.l0 k y0 y1 y2 y3 y4 y5 y6) (corebankref01_timesP.l0 (k + 1) y0 y1 y2 y3 y4 y5 y6)) ∧ (∀ y0 y1 y2 y3 y4 y5 y6, LeO (corebankref01_timesP.j1 k y0 y1 y2 y3 y4 y5 y6) (corebankref01_timesP.j1 (k + 1) y0 y1 y2 y3 y4 y5 y6))
 | 0 => ⟨fun _ _ _ _ _ _ _ r h => by simp [corebankref01_timesP.l0] at h, fun _ _ _ _ _ _ _ r h => by simp [corebankref01_timesP.j1] at h⟩
 | k + 1 => by
  obtain ⟨ih0, ih1⟩ := corebankref01_timesP.mono_l k
  refine ⟨?_, ?_⟩
  ·intro y0 y1 y2 y3 y4 y5 y6
   unfold corebankref01_timesP.l0
   repeat' first
   | (with_reducible exact ih0 _ _ _ _ _ _ _)
   | (with_reducible exact ih1 _ _ _ _ _ _ _)
   | (with_reducible exact LeO.refl _)
   | (with_reducible exact LeO.none _)
   | (with_reducible refine LeO.ite ?_ ?_)
   | (with_reducible refine LeO.bind ?_ (fun _ => ?_))
   | exact ih0 _ _ _ _ _ _ _
   | exact ih1 _ _ _ _ _ _ _
   | exact LeO.none _
   | refine LeO.ite ?_ ?_
   | refine LeO.bind ?_ (fun _ => ?_)
  ·intro y0 y1 y2 y3 y4 y5 y6
   unfold corebankref01_timesP.j1
   repeat' first
   | (with_reducible exact ih0 _ _ _ _ _ _ _)
   | (with_reducible exact ih1 _ _ _ _ _ _ _)
   | (with_reducible exact LeO.refl _)
   | (with_reducible exact LeO.none _)
   | (with_reducible refine LeO.ite ?_ ?_)
   | (with_reducible refine LeO.bind ?_ (fun _ => ?_))
   | exact ih0 _ _ _ _ _ _ _
   | exact ih1 _ _ _ _ _ _ _
   | exact LeO.none _
   | refine LeO.ite ?_ ?_
   | refine LeO.bind ?_ (fun _ => ?_)
theorem corebankref01_timesP.mono : ∀ a0 a1 a2 k, LeO (corebankref01_timesP.f k a0 a1 a2) (corebankref01_timesP.f (k + 1) a0 a1 a2) := by
 intro a0 a1 a2 k
 obtain ⟨ih0, ih1⟩ := corebankref01_timesP.mono_l k
 unfold corebankref01_timesP.f
 repeat' first
   | (with_reducible exact ih0 _ _ _ _ _ _ _)
   | (with_reducible exact ih1 _ _ _ _ _ _ _)
   | (with_reducible exact LeO.refl _)
   | (with_reducible exact LeO.none _)
   | (with_reducible refine LeO.ite ?_ ?_)
   | (with_reducible refine LeO.bind ?_ (fun _ => ?_))
   | exact ih0 _ _ _ _ _ _ _
   | exact ih1 _ _ _ _ _ _ _
   | exact LeO.none _
   | refine LeO.ite ?_ ?_
   | refine LeO.bind ?_ (fun _ => ?_)
set_option maxHeartbeats 8000000 in
set_option maxRecDepth 100000 in
theorem corebankref01_timesP.calls (k : Nat) (a0_0 : Int) (a0_1 : Int) (a1 : Int) (r1 : Int) (r2 : Int) (r3 : Bool) (w : World) (h : corebankref01_timesP.f k a0_0 a0_1 a1 = some (r1, r2, r3)) :
  Calls Tryd.prog 61 #[.agg #[.int .u64 a0_0, .int .u64 a0_1], .int .u64 a1] w fun e w' => e = .returned (.tuple #[.agg #[.int .u64 r1, .int .u64 r2], .bool r3]) ∧ Below w.heap.size w w' := by
 have hu54 := Tryd.underlying54
 have HB := Aside0.mk (Below.refl w.heap.size w)
 have H : (corebankref01_timesP.l0 k a1 true 0 a0_0 a0_1 0 0) = some (r1, r2, r3) := h
 clear h
 have H' := Aside0.mk H
 clear H
 go_enter Tryd.func61, Tryd.ntmps61
 go_wp2_with (first | ((with_reducible refine gate_dst (N := 2) rfl ?_); refine be_ (N := 2) (cs := #[.int .u64 a0_0, .int .u64 a0_1]) (t := 54) ?_; intro gb358 hg w3 hbox hb; have n0_ := Aside0.mk (below_step (qb_ HB.out) hb); have n1_ := Aside0.mk (hbox); have n2_ := Aside0.mk (bz_ hg (qb_ HB.out) : w.heap.size ≤ gb358); have n3_ := n2_; clear HB; have HB := n0_; have BK358 := n1_; have GW358 := n2_; have GE358 := n3_; clear n0_ n1_ n2_ n3_; clear hb hbox hg) | ((with_reducible refine gate_dst (N := 4) rfl ?_); refine be_ (N := 4) (cs := #[.int .u64 0, .int .u64 0]) (t := 54) ?_; intro gb359 hg w4 hbox hb; have n0_ := Aside0.mk (blk_below (qk_ BK358.out) hb); have n1_ := Aside0.mk (below_step (qb1_ GE358.out HB.out) hb); have n2_ := Aside0.mk (hbox); have n3_ := Aside0.mk (bz_ hg (qb1_ GE358.out HB.out) : w.heap.size ≤ gb359); have n4_ := n3_; have n5_ := Aside0.mk (nl_ hg (qk_ BK358.out) : gb358 ≠ gb359); have n6_ := Aside0.mk (ng_ hg (qk_ BK358.out) : gb359 ≠ gb358); clear BK358; clear HB; have BK358 := n0_; have HB := n1_; have BK359 := n2_; have GW359 := n3_; have GE359 := n4_; have NB358_359 := n5_; have NB359_358 := n6_; clear n0_ n1_ n2_ n3_ n4_ n5_ n6_; clear hb hbox hg) | ((with_reducible refine gate_dst (N := 6) rfl ?_); refine be_ (N := 6) (cs := #[.int .u64 0, .int .u64 0]) (t := 54) ?_; intro gb360 hg w5 hbox hb; have n0_ := Aside0.mk (blk_below (qk_ BK358.out) hb); have n1_ := Aside0.mk (blk_below (qk_ BK359.out) hb); have n2_ := Aside0.mk (below_step (qb2_ GE358.out GE359.out HB.out) hb); have n3_ := Aside0.mk (hbox); have n4_ := Aside0.mk (bz_ hg (qb2_ GE358.out GE359.out HB.out) : w.heap.size ≤ gb360); have n5_ := n4_; have n6_ := Aside0.mk (nl_ hg (qk_ BK358.out) : gb358 ≠ gb360); have n7_ := Aside0.mk (ng_ hg (qk_ BK358.out) : gb360 ≠ gb358); have n8_ := Aside0.mk (nl_ hg (qk_ BK359.out) : gb359 ≠ gb360); have n9_ := Aside0.mk (ng_ hg (qk_ BK359.out) : gb360 ≠ gb359); clear BK358; clear BK359; clear HB; have BK358 := n0_; have BK359 := n1_; have HB := n2_; have BK360 := n3_; have GW360 := n4_; have GE360 := n5_; have NB358_360 := n6_; have NB360_358 := n7_; have NB359_360 := n8_; have NB360_359 := n9_; clear n0_ n1_ n2_ n3_ n4_ n5_ n6_ n7_ n8_ n9_; clear hb hbox hg; have hnb6 := NB360_358.out; have hnc6 := NB358_360.out; have hnb7 := NB360_359.out; have hnc7 := NB359_360.out; have hcz8_0 : w5.cell? ⟨gb360, 0, none⟩ = some (.int .u64 0) := (blk_cell BK360.out 0).trans rfl; have hcz8_1 : w5.cell? ⟨gb360, 1, none⟩ = some (.int .u64 0) := (blk_cell BK360.out 1).trans rfl; have hfz8_0 := blk_frozen BK360.out 0; have hfz8_1 := blk_frozen BK360.out 1))
 go_loopg [1, 7, 8] k (fun kq v1 v7 v8 w' => ∃ (x1_1 : Int) (x7_1 : Bool) (x8_1 : Int) (x361000_1 : Int) (x361001_1 : Int), v1 = .int .u64 x1_1 ∧ v7 = .bool x7_1 ∧ v8 = .int .i64 x8_1 ∧ Aside0 (corebankref01_timesP.l0 kq x1_1 x7_1 x8_1 a0_0 a0_1 x361000_1 x361001_1 = some (r1, r2, r3)) ∧ Aside0 (kq ≤ k) ∧ Aside0 (w'.heap[gb358]? = some (.cells #[.int .u64 a0_0, .int .u64 a0_1] 54 (0, 0))) ∧ Aside0 (w'.heap[gb359]? = some (.cells #[.int .u64 0, .int .u64 0] 54 (0, 0))) ∧ Aside0 (w'.heap[gb360]? = some (.cells #[.int .u64 x361000_1, .int .u64 x361001_1] 54 (0, 0))) ∧ Aside0 (Below w.heap.size w w'))
 case atStart => exact ⟨(a1), (true), (0), (0), (0), qs_, qs_, qs_, H', ⟨Nat.le_refl _⟩, ⟨qff_ NB358_360.out NB358_360.out BK358.out⟩, ⟨qff_ NB359_360.out NB359_360.out BK359.out⟩, ⟨qpp_ #[.int .u64 0, .int .u64 0] 1 #[.int .u64 0, .int .u64 0] 0 BK360.out⟩, ⟨qb3_ GE358.out GE359.out GE360.out HB.out⟩⟩
 case round =>
  clear H'
  try clear p2
  try clear c6
  try clear c7
  try clear hcz8_0
  try clear hcz8_1
  try clear hfz8_0
  try clear hfz8_1
  obtain ⟨x1_1, x7_1, x8_1, x361000_1, x361001_1, rfl, rfl, rfl, HA, HK1, BK358, BK359, BK360, HB⟩ := hrel
  cases gk with
  | zero => exact absurd HA.out (by simp [corebankref01_timesP.l0])
  | succ k1 =>
   have H := HA.out
   clear HA
   simp only [corebankref01_timesP.l0] at H
   by_cases c9 : x8_1 < 64
   ·rw [if_pos c9] at H
    have c9b0 : decide (x8_1 < 64) = true := decide_eq_true c9
    clear c9
    replace H := Option.bind_eq_some_iff.mp H
    obtain ⟨⟨t361, t362, t363⟩, A100, H⟩ := H
    replace H : (if x7_1 = true then (corebankref01_timesP.j1 k1 x1_1 t363 x8_1 a0_0 a0_1 t361 t362) else (corebankref01_timesP.j1 k1 x1_1 false x8_1 a0_0 a0_1 t361 t362)) = some (r1, r2, r3) := H
    have A10 := Aside0.mk A100
    clear A100
    have HC11 := Aside0.mk H
    clear H
    have hnb12 := NB360_358.out
    have hnc12 := NB358_360.out
    have hnb13 := NB360_359.out
    have hnc13 := NB359_360.out
    have hcz14_0 : wr.cell? ⟨gb360, 0, none⟩ = some (.int .u64 x361000_1) := (blk_cell BK360.out 0).trans rfl
    have hcz14_1 : wr.cell? ⟨gb360, 1, none⟩ = some (.int .u64 x361001_1) := (blk_cell BK360.out 1).trans rfl
    have hfz14_0 := blk_frozen BK360.out 0
    have hfz14_1 := blk_frozen BK360.out 1
    go_upto_region 8 with (first | ((with_reducible refine gate_callee (f := 48) rfl ?_); refine goesL_ (some 19) rfl rfl Tryd.func48 (by kernel_rfl) rfl #[.agg #[.int .u64 x361000_1, .int .u64 x361001_1], .agg #[.int .u64 x361000_1, .int .u64 x361001_1]] rfl ql_ ?_; (with_reducible refine (corebankref01_plus.calls x361000_1 x361001_1 x361000_1 x361001_1 t361 t362 t363 _ A10.out).mono ?_); rintro e w15 ⟨rfl, hb⟩; refine ⟨_, rfl, ?_⟩; have n0_ := Aside0.mk (blk_below (qk_ BK358.out) hb); have n1_ := Aside0.mk (blk_below (qk_ BK359.out) hb); have n2_ := Aside0.mk (blk_below (qk_ BK360.out) hb); have n3_ := Aside0.mk (below_step (qb3_ GE358.out GE359.out GE360.out HB.out) hb); clear BK358; clear BK359; clear BK360; clear HB; have BK358 := n0_; have BK359 := n1_; have BK360 := n2_; have HB := n3_; clear n0_ n1_ n2_ n3_; (try clear hb); (try clear hb2); (try clear hk); (try clear hi)) | ((with_reducible refine gate_dst (N := 9) rfl ?_); refine be_ (N := 9) (cs := #[.int .u64 0, .int .u64 0]) (t := 54) ?_; intro gb364 hg w16 hbox hb; have n0_ := Aside0.mk (blk_below (qk_ BK358.out) hb); have n1_ := Aside0.mk (blk_below (qk_ BK359.out) hb); have n2_ := Aside0.mk (blk_below (qk_ BK360.out) hb); have n3_ := Aside0.mk (below_step (qb3_ GE358.out GE359.out GE360.out HB.out) hb); have n4_ := Aside0.mk (hbox); have n5_ := Aside0.mk (bz_ hg (qb3_ GE358.out GE359.out GE360.out HB.out) : w.heap.size ≤ gb364); have n6_ := n5_; have n7_ := Aside0.mk (nl_ hg (qk_ BK358.out) : gb358 ≠ gb364); have n8_ := Aside0.mk (ng_ hg (qk_ BK358.out) : gb364 ≠ gb358); have n9_ := Aside0.mk (nl_ hg (qk_ BK359.out) : gb359 ≠ gb364); have n10_ := Aside0.mk (ng_ hg (qk_ BK359.out) : gb364 ≠ gb359); have n11_ := Aside0.mk (nl_ hg (qk_ BK360.out) : gb360 ≠ gb364); have n12_ := Aside0.mk (ng_ hg (qk_ BK360.out) : gb364 ≠ gb360); clear BK358; clear BK359; clear BK360; clear HB; have BK358 := n0_; have BK359 := n1_; have BK360 := n2_; have HB := n3_; have BK364 := n4_; have GW364 := n5_; have GE364 := n6_; have NB358_364 := n7_; have NB364_358 := n8_; have NB359_364 := n9_; have NB364_359 := n10_; have NB360_364 := n11_; have NB364_360 := n12_; clear n0_ n1_ n2_ n3_ n4_ n5_ n6_ n7_ n8_ n9_ n10_ n11_ n12_; clear hb hbox hg; have hnb17 := NB364_358.out; have hnc17 := NB358_364.out; have hnb18 := NB364_359.out; have hnc18 := NB359_364.out; have hnb19 := NB364_360.out; have hnc19 := NB360_364.out; have hcz20_0 : w16.cell? ⟨gb364, 0, none⟩ = some (.int .u64 0) := (blk_cell BK364.out 0).trans rfl; have hcz20_1 : w16.cell? ⟨gb364, 1, none⟩ = some (.int .u64 0) := (blk_cell BK364.out 1).trans rfl; have hfz20_0 := blk_frozen BK364.out 0; have hfz20_1 := blk_frozen BK364.out 1; have hcz21_0 : w16.cell? ⟨gb360, 0, none⟩ = some (.int .u64 x361000_1) := (blk_cell BK360.out 0).trans rfl; have hcz21_1 : w16.cell? ⟨gb360, 1, none⟩ = some (.int .u64 x361001_1) := (blk_cell BK360.out 1).trans rfl; have hfz21_0 := blk_frozen BK360.out 0; have hfz21_1 := blk_frozen BK360.out 1))
    (try simp only [Act.put, List.setIfInBounds_toArray, List.set_cons_zero, List.set_cons_succ])
    go_cut [7] (fun v7 wc => ∃ (kq : Nat) (x7_10 : Bool), v7 = .bool x7_10 ∧ Aside0 (corebankref01_timesP.j1 kq x1_1 x7_10 x8_1 a0_0 a0_1 t361 t362 = some (r1, r2, r3)) ∧ Aside0 (kq ≤ k1) ∧ Aside0 (wc.heap[gb358]? = some (.cells #[.int .u64 a0_0, .int .u64 a0_1] 54 (0, 0))) ∧ Aside0 (wc.heap[gb359]? = some (.cells #[.int .u64 0, .int .u64 0] 54 (0, 0))) ∧ Aside0 (wc.heap[gb360]? = some (.cells #[.int .u64 t361, .int .u64 t362] 54 (0, 0))) ∧ Aside0 (wc.heap[gb364]? = some (.cells #[.int .u64 t361, .int .u64 t362] 54 (0, 0))) ∧ Aside0 (Below w.heap.size w wc))
    case first =>
     have H := HC11.out
     clear HC11
     by_cases c22 : x7_1 = true
     ·subst c22
      have H1 : (corebankref01_timesP.j1 k1 x1_1 t363 x8_1 a0_0 a0_1 t361 t362) = some (r1, r2, r3) := by rw [if_pos rfl] at H; exact H
      clear H
      have H := H1
      clear H1
      have H' := Aside0.mk H
      clear H
      go_wp2
      go_meet
      case rel => exact ⟨_, (t363), qs_, H', ⟨by have := HK1.out; first | omega | exact Nat.le_refl _⟩, ⟨qffff_ NB358_360.out NB358_360.out NB358_364.out NB358_364.out BK358.out⟩, ⟨qffff_ NB359_360.out NB359_360.out NB359_364.out NB359_364.out BK359.out⟩, ⟨qppff_ #[.int .u64 t361, .int .u64 x361001_1] 1 #[.int .u64 x361000_1, .int .u64 x361001_1] 0 NB360_364.out NB360_364.out BK360.out⟩, ⟨qffpp_ NB364_360.out NB364_360.out #[.int .u64 t361, .int .u64 0] 1 #[.int .u64 0, .int .u64 0] 0 BK364.out⟩, ⟨qb4_ GE358.out GE359.out GE360.out GE364.out HB.out⟩⟩
     ·replace c22 := Bool.eq_false_iff.mpr c22
      subst c22
      have H1 : (corebankref01_timesP.j1 k1 x1_1 false x8_1 a0_0 a0_1 t361 t362) = some (r1, r2, r3) := by rw [if_neg (show ¬ (false = true) by decide)] at H; exact H
      clear H
      have H := H1
      clear H1
      have H' := Aside0.mk H
      clear H
      go_wp2
      go_meet
      case rel => exact ⟨_, (false), qs_, H', ⟨by have := HK1.out; first | omega | exact Nat.le_refl _⟩, ⟨qffff_ NB358_360.out NB358_360.out NB358_364.out NB358_364.out BK358.out⟩, ⟨qffff_ NB359_360.out NB359_360.out NB359_364.out NB359_364.out BK359.out⟩, ⟨qppff_ #[.int .u64 t361, .int .u64 x361001_1] 1 #[.int .u64 x361000_1, .int .u64 x361001_1] 0 NB360_364.out NB360_364.out BK360.out⟩, ⟨qffpp_ NB364_360.out NB364_360.out #[.int .u64 t361, .int .u64 0] 1 #[.int .u64 0, .int .u64 0] 0 BK364.out⟩, ⟨qb4_ GE358.out GE359.out GE360.out GE364.out HB.out⟩⟩
    case rest =>
     clear HC11
     try clear c1
     try clear c2
     try clear p2
     try clear c4
     try clear c6
     try clear c7
     try clear c9
     try clear c9b0
     try clear c12
     try clear c13
     try clear c17
     try clear c18
     try clear c19
     try clear c22
     try clear hcz14_0
     try clear hcz14_1
     try clear hcz20_0
     try clear hcz20_1
     try clear hcz21_0
     try clear hcz21_1
     try clear hcz8_0
     try clear hcz8_1
     try clear hfz14_0
     try clear hfz14_1
     try clear hfz20_0
     try clear hfz20_1
     try clear hfz21_0
     try clear hfz21_1
     try clear hfz8_0
     try clear hfz8_1
     try clear p2
     obtain ⟨kq, x7_10, rfl, HA, HJ10, BK358, BK359, BK360, BK364, HB⟩ := hcut
     cases kq with
     | zero => exact absurd HA.out (by simp [corebankref01_timesP.j1])
     | succ kj10 =>
      have H := HA.out
      clear HA
      simp only [corebankref01_timesP.j1] at H
      by_cases c23 : (Go.bits .and .u64 x1_1 9223372036854775808) = 0
      ·rw [if_pos c23] at H
       have c23b0 : ((Go.bits .and .u64 x1_1 9223372036854775808) == 0) = true := beq_iff_eq.mpr c23
       have c23b1 : ((Go.bits .and .u64 x1_1 9223372036854775808) != 0) = false := bne_eq_false_iff_eq.mpr c23
       clear c23
       have H' := Aside0.mk H
       clear H
       go_wp2
       go_roundg kj10
       case measure => have := HK1.out; have := HJ10.out; omega
       case rel => exact ⟨(IntKind.u64.wrap (x1_1 * 2)), (x7_10), (wrap64 (x8_1 + 1)), (t361), (t362), qs_, qs_, qs_, H', ⟨by have := HK1.out; have := HJ10.out; omega⟩, ⟨qk_ BK358.out⟩, ⟨qk_ BK359.out⟩, ⟨qk_ BK360.out⟩, ⟨qb4_ GE358.out GE359.out GE360.out GE364.out HB.out⟩⟩
      ·rw [if_neg c23] at H
       have c23b0 : ((Go.bits .and .u64 x1_1 9223372036854775808) == 0) = false := beq_eq_false_iff_ne.mpr c23
       have c23b1 : ((Go.bits .and .u64 x1_1 9223372036854775808) != 0) = true := bne_iff_ne.mpr c23
       replace H := Option.bind_eq_some_iff.mp H
       obtain ⟨⟨t365, t366, t367⟩, A240, H⟩ := H
       replace H : (if x7_10 = true then (corebankref01_timesP.l0 kj10 (IntKind.u64.wrap (x1_1 * 2)) t367 (wrap64 (x8_1 + 1)) a0_0 a0_1 t365 t366) else (corebankref01_timesP.l0 kj10 (IntKind.u64.wrap (x1_1 * 2)) false (wrap64 (x8_1 + 1)) a0_0 a0_1 t365 t366)) = some (r1, r2, r3) := H
       have A24 := Aside0.mk A240
       clear A240
       by_cases c25 : x7_10 = true
       ·subst c25
        have H1 : (corebankref01_timesP.l0 kj10 (IntKind.u64.wrap (x1_1 * 2)) t367 (wrap64 (x8_1 + 1)) a0_0 a0_1 t365 t366) = some (r1, r2, r3) := by rw [if_pos rfl] at H; exact H
        clear H
        have H := H1
        clear H1
        have H' := Aside0.mk H
        clear H
        have hnb26 := NB360_358.out
        have hnc26 := NB358_360.out
        have hnb27 := NB360_359.out
        have hnc27 := NB359_360.out
        have hnb28 := NB360_364.out
        have hnc28 := NB364_360.out
        have hcz29_0 : wc.cell? ⟨gb360, 0, none⟩ = some (.int .u64 t361) := (blk_cell BK360.out 0).trans rfl
        have hcz29_1 : wc.cell? ⟨gb360, 1, none⟩ = some (.int .u64 t362) := (blk_cell BK360.out 1).trans rfl
        have hfz29_0 := blk_frozen BK360.out 0
        have hfz29_1 := blk_frozen BK360.out 1
        have hnb30 := NB358_359.out
        have hnc30 := NB359_358.out
        have hnb31 := NB358_364.out
        have hnc31 := NB364_358.out
        have hcz32_0 : wc.cell? ⟨gb358, 0, none⟩ = some (.int .u64 a0_0) := (blk_cell BK358.out 0).trans rfl
        have hcz32_1 : wc.cell? ⟨gb358, 1, none⟩ = some (.int .u64 a0_1) := (blk_cell BK358.out 1).trans rfl
        have hfz32_0 := blk_frozen BK358.out 0
        have hfz32_1 := blk_frozen BK358.out 1
        go_wp2_with (first | ((with_reducible refine gate_callee (f := 48) rfl ?_); refine goesL_ (some 33) rfl rfl Tryd.func48 (by kernel_rfl) rfl #[.agg #[.int .u64 t361, .int .u64 t362], .agg #[.int .u64 a0_0, .int .u64 a0_1]] rfl ql_ ?_; (with_reducible refine (corebankref01_plus.calls t361 t362 a0_0 a0_1 t365 t366 t367 _ A24.out).mono ?_); rintro e w33 ⟨rfl, hb⟩; refine ⟨_, rfl, ?_⟩; have n0_ := Aside0.mk (blk_below (qk_ BK358.out) hb); have n1_ := Aside0.mk (blk_below (qk_ BK359.out) hb); have n2_ := Aside0.mk (blk_below (qk_ BK360.out) hb); have n3_ := Aside0.mk (blk_below (qk_ BK364.out) hb); have n4_ := Aside0.mk (below_step (qb4_ GE358.out GE359.out GE360.out GE364.out HB.out) hb); clear BK358; clear BK359; clear BK360; clear BK364; clear HB; have BK358 := n0_; have BK359 := n1_; have BK360 := n2_; have BK364 := n3_; have HB := n4_; clear n0_ n1_ n2_ n3_ n4_; (try clear hb); (try clear hb2); (try clear hk); (try clear hi); have hnb34 := NB364_359.out; have hnc34 := NB359_364.out; have hcz35_0 : w33.cell? ⟨gb364, 0, none⟩ = some (.int .u64 t361) := (blk_cell BK364.out 0).trans rfl; have hcz35_1 : w33.cell? ⟨gb364, 1, none⟩ = some (.int .u64 t362) := (blk_cell BK364.out 1).trans rfl; have hfz35_0 := blk_frozen BK364.out 0; have hfz35_1 := blk_frozen BK364.out 1; have hcz36_0 : w33.cell? ⟨gb360, 0, none⟩ = some (.int .u64 t361) := (blk_cell BK360.out 0).trans rfl; have hcz36_1 : w33.cell? ⟨gb360, 1, none⟩ = some (.int .u64 t362) := (blk_cell BK360.out 1).trans rfl; have hfz36_0 := blk_frozen BK360.out 0; have hfz36_1 := blk_frozen BK360.out 1))
        go_roundg kj10
        case measure => have := HK1.out; have := HJ10.out; omega
        case rel => exact ⟨(IntKind.u64.wrap (x1_1 * 2)), (t367), (wrap64 (x8_1 + 1)), (t365), (t366), qs_, qs_, qs_, H', ⟨by have := HK1.out; have := HJ10.out; omega⟩, ⟨qffff_ NB358_360.out NB358_360.out NB358_364.out NB358_364.out BK358.out⟩, ⟨qffff_ NB359_360.out NB359_360.out NB359_364.out NB359_364.out BK359.out⟩, ⟨qppff_ #[.int .u64 t365, .int .u64 t362] 1 #[.int .u64 t361, .int .u64 t362] 0 NB360_364.out NB360_364.out BK360.out⟩, ⟨qb4_ GE358.out GE359.out GE360.out GE364.out HB.out⟩⟩
       ·replace c25 := Bool.eq_false_iff.mpr c25
        subst c25
        have H1 : (corebankref01_timesP.l0 kj10 (IntKind.u64.wrap (x1_1 * 2)) false (wrap64 (x8_1 + 1)) a0_0 a0_1 t365 t366) = some (r1, r2, r3) := by rw [if_neg (show ¬ (false = true) by decide)] at H; exact H
        clear H
        have H := H1
        clear H1
        have H' := Aside0.mk H
        clear H
        have hnb37 := NB360_358.out
        have hnc37 := NB358_360.out
        have hnb38 := NB360_359.out
        have hnc38 := NB359_360.out
        have hnb39 := NB360_364.out
        have hnc39 := NB364_360.out
        have hcz40_0 : wc.cell? ⟨gb360, 0, none⟩ = some (.int .u64 t361) := (blk_cell BK360.out 0).trans rfl
        have hcz40_1 : wc.cell? ⟨gb360, 1, none⟩ = some (.int .u64 t362) := (blk_cell BK360.out 1).trans rfl
        have hfz40_0 := blk_frozen BK360.out 0
        have hfz40_1 := blk_frozen BK360.out 1
        have hnb41 := NB358_359.out
        have hnc41 := NB359_358.out
        have hnb42 := NB358_364.out
        have hnc42 := NB364_358.out
        have hcz43_0 : wc.cell? ⟨gb358, 0, none⟩ = some (.int .u64 a0_0) := (blk_cell BK358.out 0).trans rfl
        have hcz43_1 : wc.cell? ⟨gb358, 1, none⟩ = some (.int .u64 a0_1) := (blk_cell BK358.out 1).trans rfl
        have hfz43_0 := blk_frozen BK358.out 0
        have hfz43_1 := blk_frozen BK358.out 1
        go_wp2_with (first | ((with_reducible refine gate_callee (f := 48) rfl ?_); refine goesL_ (some 33) rfl rfl Tryd.func48 (by kernel_rfl) rfl #[.agg #[.int .u64 t361, .int .u64 t362], .agg #[.int .u64 a0_0, .int .u64 a0_1]] rfl ql_ ?_; (with_reducible refine (corebankref01_plus.calls t361 t362 a0_0 a0_1 t365 t366 t367 _ A24.out).mono ?_); rintro e w44 ⟨rfl, hb⟩; refine ⟨_, rfl, ?_⟩; have n0_ := Aside0.mk (blk_below (qk_ BK358.out) hb); have n1_ := Aside0.mk (blk_below (qk_ BK359.out) hb); have n2_ := Aside0.mk (blk_below (qk_ BK360.out) hb); have n3_ := Aside0.mk (blk_below (qk_ BK364.out) hb); have n4_ := Aside0.mk (below_step (qb4_ GE358.out GE359.out GE360.out GE364.out HB.out) hb); clear BK358; clear BK359; clear BK360; clear BK364; clear HB; have BK358 := n0_; have BK359 := n1_; have BK360 := n2_; have BK364 := n3_; have HB := n4_; clear n0_ n1_ n2_ n3_ n4_; (try clear hb); (try clear hb2); (try clear hk); (try clear hi); have hnb45 := NB364_359.out; have hnc45 := NB359_364.out; have hcz46_0 : w44.cell? ⟨gb364, 0, none⟩ = some (.int .u64 t361) := (blk_cell BK364.out 0).trans rfl; have hcz46_1 : w44.cell? ⟨gb364, 1, none⟩ = some (.int .u64 t362) := (blk_cell BK364.out 1).trans rfl; have hfz46_0 := blk_frozen BK364.out 0; have hfz46_1 := blk_frozen BK364.out 1; have hcz47_0 : w44.cell? ⟨gb360, 0, none⟩ = some (.int .u64 t361) := (blk_cell BK360.out 0).trans rfl; have hcz47_1 : w44.cell? ⟨gb360, 1, none⟩ = some (.int .u64 t362) := (blk_cell BK360.out 1).trans rfl; have hfz47_0 := blk_frozen BK360.out 0; have hfz47_1 := blk_frozen BK360.out 1))
        go_roundg kj10
        case measure => have := HK1.out; have := HJ10.out; omega
        case rel => exact ⟨(IntKind.u64.wrap (x1_1 * 2)), (false), (wrap64 (x8_1 + 1)), (t365), (t366), qs_, qs_, qs_, H', ⟨by have := HK1.out; have := HJ10.out; omega⟩, ⟨qffff_ NB358_360.out NB358_360.out NB358_364.out NB358_364.out BK358.out⟩, ⟨qffff_ NB359_360.out NB359_360.out NB359_364.out NB359_364.out BK359.out⟩, ⟨qppff_ #[.int .u64 t365, .int .u64 t362] 1 #[.int .u64 t361, .int .u64 t362] 0 NB360_364.out NB360_364.out BK360.out⟩, ⟨qb4_ GE358.out GE359.out GE360.out GE364.out HB.out⟩⟩
   ·rw [if_neg c9] at H
    have c9b0 : decide (x8_1 < 64) = false := decide_eq_false c9
    clear c9
    simp only [Option.some.injEq, Prod.mk.injEq] at H
    obtain ⟨rfl, rfl, rfl⟩ := H
    have hnb48 := NB360_358.out
    have hnc48 := NB358_360.out
    have hnb49 := NB360_359.out
    have hnc49 := NB359_360.out
    have hcz50_0 : wr.cell? ⟨gb360, 0, none⟩ = some (.int .u64 x361000_1) := (blk_cell BK360.out 0).trans rfl
    have hcz50_1 : wr.cell? ⟨gb360, 1, none⟩ = some (.int .u64 x361001_1) := (blk_cell BK360.out 1).trans rfl
    have hfz50_0 := blk_frozen BK360.out 0
    have hfz50_1 := blk_frozen BK360.out 1
    have hnb51 := NB359_358.out
    have hnc51 := NB358_359.out
    have hcz52_0 : wr.cell? ⟨gb359, 0, none⟩ = some (.int .u64 0) := (blk_cell BK359.out 0).trans rfl
    have hcz52_1 : wr.cell? ⟨gb359, 1, none⟩ = some (.int .u64 0) := (blk_cell BK359.out 1).trans rfl
    have hfz52_0 := blk_frozen BK359.out 0
    have hfz52_1 := blk_frozen BK359.out 1
    go_wp2
    refine bodyPost_ret (results_ct rfl _ _ gb359 54 #[.int .u64 x361000_1, .int .u64 x361001_1] (0, 0) _ rfl (qpp_ #[.int .u64 x361000_1, .int .u64 0] 1 #[.int .u64 0, .int .u64 0] 0 BK359.out) Tryd.underlying54 rfl (by kernel_rfl)) rfl ?_
    exact ⟨qe_, qb3_ GE358.out GE359.out GE360.out HB.out⟩
end Go.Proofs.YtkdhippoibjfkaaDoor.PR
end
