import Derived.Test.YtjkjiibhdpcpkaaDoorQRm2
import Derived.Test.YtjkjiibhdpcpkaaDoorQRm3
import Derived.Test.YtjkjiibhdpcpkaaDoorQRm4
import Derived.Test.YtjkjiibhdpcpkaaDoorQRm6
import Derived.Test.YtjkjiibhdpcpkaaDoorQRm7
section
namespace Go.Proofs.YtjkjiibhdpcpkaaDoor.PS
open Go.RowKit Go.Proofs.YtjkjiibhdpcpkaaDoorW.PrintWords Go.Proofs.YtjkjiibhdpcpkaaDoorW.PrintLast
set_option linter.unusedVariables false
set_option linter.unusedSimpArgs false
theorem st26b_ {B g : Nat} {w0 w : World} (hb : Below B w0 w) (hBg : B ≤ g) (cs : Array Value) : Below B w0 (w.setRow g cs) :=
  hb.trans ⟨rfl, rfl, rfl, by simp [World.setRow], fun k hk => setRow_other w g k cs (by omega)⟩
theorem st26_ {P : Program} {ops : Array Oper} {rest : List Oper} {o : Oper} {a : Act} {Q : Exit → Act → World → Prop} {W : World} {t : TypeId} {p : Tmp} {v : Operand} {g : Nat} {old : Array Value} (cs : Array Value)
  (ho : o.op = .store t (.tmp p) v) (hgd : o.guard = none) (hN : o.dst = none) (hx : a.eval (.tmp p) = .pointer (some ⟨g, 0, none⟩)) (hv : a.eval v = .agg cs) (hb : W.heap[g]? = some (.cells old t (0, 0)))
  (hi : (P.info? t).map (·.size) = some cs.size) (hs : old.size = cs.size) (h1 : cs.toList.all (·.oneCell') = true)
  (h : ∀ w', w'.heap[g]? = some (.cells cs t (0, 0)) → (∀ k, k ≠ g → w'.heap[k]? = W.heap[k]?) → (∀ (B : Nat) (w0 : World), Below B w0 W → B ≤ g → Below B w0 w') → wpList P ops Q rest a w') : wpList P ops Q (o :: rest) a W := by
  have hl := run_storeVar_row (P := P) W g t t old cs hb hi hs (by simpa using h1)
  refine store_event (t := t) (p := p) (v := v) (w1 := W.setRow g cs) hgd ho hN ?_ (fun w' e => by subst e; exact h _ (setRow_heap W g old cs t (0, 0) hb) (fun k hk => setRow_other W g k cs hk) (fun B w0 hB hg => st26b_ hB hg cs))
  unfold execOp
  simp only [ho, hx, hv]
  simp [Instr.storeAt, Instr.sureAddr, Sem.run_bind, hl, Result.andThen]
theorem ldg26_ {P : Program} {ops : Array Oper} {rest : List Oper} {o : Oper} {a : Act} {Q : Exit → Act → World → Prop} {W : World} {t : TypeId} {b : Tmp} {g : Nat} {cs : Array Value} {d : TypeDesc} (hu : P.underlying t = some d) (ho : o.op = .load t (.tmp b)) (hw : Region.wanted o (yielded ops a.tmps) = true)
  (hx : a.eval (.tmp b) = .pointer (some ⟨g, 0, none⟩)) (hb : W.heap[g]? = some (.cells cs t (0, 0))) (hd : (match d with | .struct _ | .array _ _ => true | _ => false) = true) (hi : (P.info? t).map (·.size) = some cs.size)
  (h : wpList P ops Q rest (a.put o.dst (.agg cs)) W) : wpList P ops Q (o :: rest) a W := by
  refine BigFrame.wpList_want hw fun K hK => ?_
  have hl := ld_of_cells (P := P) (w := W) (g := g) (t := t) cs.toList (fun j v hv => by rw [cell_of_row W g j cs t (0, 0) hb]; simpa using hv) hu hd (by simpa using hi)
  have hr : (execOp a.eval o).run P W = .ok (.value (.agg cs)) W := ldx_ ho hx (by simpa using hl)
  unfold Oper.wp
  rw [hr]
  exact hK _ _ h
def corebanklaw38_Live.f (k : Nat)  : Option (Bool) := (some (([(⟨1, 10, 1005, 0⟩ : S54)] : List (S54)) : List (S54))).bind fun y222 => ((provision_Expected.f k 0 0 1 0 0 0 0 0 0 0 0 0 0 0 0 0 0 0 0 0 0 (⟨#[]⟩ : ByteArray) (⟨#[]⟩ : ByteArray) y222 ([] : List (S50)) 10).bind fun bt226 => ((provision_Expected.f k 0 0 1 0 0 0 0 0 0 0 0 0 0 0 0 0 0 0 0 0 0 (⟨#[]⟩ : ByteArray) (⟨#[]⟩ : ByteArray) y222 ([] : List (S50)) 41).bind fun bt228 => ((provision_Move.f k 0 0 1 0 0 0 0 0 0 0 0 0 0 0 0 0 0 0 0 0 0 (⟨#[]⟩ : ByteArray) (⟨#[]⟩ : ByteArray) y222 ([] : List (S50)) 101).bind fun bt230 => ((provision_Total.f k (([(⟨0, 0, 1, 0, 0, 0, 0, 0, 0, 0, 0, (⟨0, 0, 0, 0, 0, 0, 0, 0, 0, 0, (⟨#[]⟩ : ByteArray), (⟨#[]⟩ : ByteArray)⟩ : S23), y222, ([] : List (S50))⟩ : S27), (⟨0, 0, 1, 0, 0, 0, 0, 0, 0, 0, 0, (⟨0, 0, 0, 0, 0, 0, 0, 0, 0, 0, (⟨#[]⟩ : ByteArray), (⟨#[]⟩ : ByteArray)⟩ : S23), y222, ([] : List (S50))⟩ : S27)] : List (S27))) 10).bind fun bt265 => (if bt226.1 = 11 then (if bt226.2 = 0 then (if bt228.1 = 101 then (if bt228.2 = 0 then (if bt230.2.2.2.2.2.2.2.2.1 = 453 then (if bt230.2.2.2.2.2.2.2.2.2.2.2.2.2.2.2.2.2.2.2.2.2.2.2.2.2.1 = 453 then (if bt230.2.2.2.2.2.2.2.2.2.2.2.2.2.2.2.2.2.2.2.2.2.2.2.2.2.2 = 0 then (if bt265.1 = 22 then (if bt265.2 = 0 then ((provision_Stage.f k 0 0 1 0 0 0 0 0 0 0 0 0 0 0 0 0 0 0 0 0 0 (⟨#[]⟩ : ByteArray) (⟨#[]⟩ : ByteArray) y222 ([] : List (S50)) 101).bind fun t267 => (if t267 = 3 then ((provision_Stage.f k 0 0 0 0 0 0 0 0 0 0 0 0 0 0 0 0 0 0 0 0 0 (⟨#[]⟩ : ByteArray) (⟨#[]⟩ : ByteArray) ([] : List (S54)) ([] : List (S50)) 5).bind fun t268 => (if t268 = 0 then ((provision_Rate.f 2).bind fun t269 => (if t269 = 100000 then ((provision_Rate.f 4).bind fun t270 => (some (t270 == 0))) else (some false))) else (some false))) else (some false))) else (some false)) else (some false)) else (some false)) else (some false)) else (some false)) else (some false)) else (some false)) else (some false)) else (some false))))))
theorem corebanklaw38_Live.mono : ∀ k, LeO (corebanklaw38_Live.f k ) (corebanklaw38_Live.f (k + 1) ) := by
 intro  k
 unfold corebanklaw38_Live.f
 repeat' first
   | (with_reducible exact provision_Expected.mono _ _ _ _ _ _ _ _ _ _ _ _ _ _ _ _ _ _ _ _ _ _ _ _ _ _ _)
   | (with_reducible exact provision_Move.mono _ _ _ _ _ _ _ _ _ _ _ _ _ _ _ _ _ _ _ _ _ _ _ _ _ _ _)
   | (with_reducible exact provision_Stage.mono _ _ _ _ _ _ _ _ _ _ _ _ _ _ _ _ _ _ _ _ _ _ _ _ _ _ _)
   | (with_reducible exact provision_Total.mono _ _ _)
   | (with_reducible exact LeO.refl _)
   | (with_reducible exact LeO.none _)
   | (with_reducible refine LeO.ite ?_ ?_)
   | (with_reducible refine LeO.bind ?_ (fun _ => ?_))
   | exact provision_Expected.mono _ _ _ _ _ _ _ _ _ _ _ _ _ _ _ _ _ _ _ _ _ _ _ _ _ _ _
   | exact provision_Move.mono _ _ _ _ _ _ _ _ _ _ _ _ _ _ _ _ _ _ _ _ _ _ _ _ _ _ _
   | exact provision_Stage.mono _ _ _ _ _ _ _ _ _ _ _ _ _ _ _ _ _ _ _ _ _ _ _ _ _ _ _
   | exact provision_Total.mono _ _ _
   | exact LeO.none _
   | refine LeO.ite ?_ ?_
   | refine LeO.bind ?_ (fun _ => ?_)
set_option maxHeartbeats 8000000 in
set_option maxRecDepth 100000 in
theorem corebanklaw38_Live.calls1 (k : Nat)  (w : World) (hG : GW w) (h : corebanklaw38_Live.f k  = some true) :
  Calls Tryd.prog 13 #[] w fun e w' => e = .returned (.bool true) ∧ Below w.heap.size w w' := by
 have hu54 := Tryd.underlying54
 have hu27 := Tryd.underlying27
 have HB := Aside0.mk (Below.refl w.heap.size w)
 have H : ((some (([(⟨1, 10, 1005, 0⟩ : S54)] : List (S54)) : List (S54))).bind fun y222 => ((provision_Expected.f k 0 0 1 0 0 0 0 0 0 0 0 0 0 0 0 0 0 0 0 0 0 (⟨#[]⟩ : ByteArray) (⟨#[]⟩ : ByteArray) y222 ([] : List (S50)) 10).bind fun bt226 => ((provision_Expected.f k 0 0 1 0 0 0 0 0 0 0 0 0 0 0 0 0 0 0 0 0 0 (⟨#[]⟩ : ByteArray) (⟨#[]⟩ : ByteArray) y222 ([] : List (S50)) 41).bind fun bt228 => ((provision_Move.f k 0 0 1 0 0 0 0 0 0 0 0 0 0 0 0 0 0 0 0 0 0 (⟨#[]⟩ : ByteArray) (⟨#[]⟩ : ByteArray) y222 ([] : List (S50)) 101).bind fun bt230 => ((provision_Total.f k (([(⟨0, 0, 1, 0, 0, 0, 0, 0, 0, 0, 0, (⟨0, 0, 0, 0, 0, 0, 0, 0, 0, 0, (⟨#[]⟩ : ByteArray), (⟨#[]⟩ : ByteArray)⟩ : S23), y222, ([] : List (S50))⟩ : S27), (⟨0, 0, 1, 0, 0, 0, 0, 0, 0, 0, 0, (⟨0, 0, 0, 0, 0, 0, 0, 0, 0, 0, (⟨#[]⟩ : ByteArray), (⟨#[]⟩ : ByteArray)⟩ : S23), y222, ([] : List (S50))⟩ : S27)] : List (S27))) 10).bind fun bt265 => (if bt226.1 = 11 then (if bt226.2 = 0 then (if bt228.1 = 101 then (if bt228.2 = 0 then (if bt230.2.2.2.2.2.2.2.2.1 = 453 then (if bt230.2.2.2.2.2.2.2.2.2.2.2.2.2.2.2.2.2.2.2.2.2.2.2.2.2.1 = 453 then (if bt230.2.2.2.2.2.2.2.2.2.2.2.2.2.2.2.2.2.2.2.2.2.2.2.2.2.2 = 0 then (if bt265.1 = 22 then (if bt265.2 = 0 then ((provision_Stage.f k 0 0 1 0 0 0 0 0 0 0 0 0 0 0 0 0 0 0 0 0 0 (⟨#[]⟩ : ByteArray) (⟨#[]⟩ : ByteArray) y222 ([] : List (S50)) 101).bind fun t267 => (if t267 = 3 then ((provision_Stage.f k 0 0 0 0 0 0 0 0 0 0 0 0 0 0 0 0 0 0 0 0 0 (⟨#[]⟩ : ByteArray) (⟨#[]⟩ : ByteArray) ([] : List (S54)) ([] : List (S50)) 5).bind fun t268 => (if t268 = 0 then ((provision_Rate.f 2).bind fun t269 => (if t269 = 100000 then ((provision_Rate.f 4).bind fun t270 => (some (t270 == 0))) else (some false))) else (some false))) else (some false))) else (some false)) else (some false)) else (some false)) else (some false)) else (some false)) else (some false)) else (some false)) else (some false)) else (some false))))))) = some true := h
 clear h
 obtain ⟨y222, hy222⟩ : ∃ y_ : List (S54), y_ = (([(⟨1, 10, 1005, 0⟩ : S54)] : List (S54))) := ⟨_, rfl⟩
 replace H : ((provision_Expected.f k 0 0 1 0 0 0 0 0 0 0 0 0 0 0 0 0 0 0 0 0 0 (⟨#[]⟩ : ByteArray) (⟨#[]⟩ : ByteArray) y222 ([] : List (S50)) 10).bind fun bt226 => ((provision_Expected.f k 0 0 1 0 0 0 0 0 0 0 0 0 0 0 0 0 0 0 0 0 0 (⟨#[]⟩ : ByteArray) (⟨#[]⟩ : ByteArray) y222 ([] : List (S50)) 41).bind fun bt228 => ((provision_Move.f k 0 0 1 0 0 0 0 0 0 0 0 0 0 0 0 0 0 0 0 0 0 (⟨#[]⟩ : ByteArray) (⟨#[]⟩ : ByteArray) y222 ([] : List (S50)) 101).bind fun bt230 => ((provision_Total.f k (([(⟨0, 0, 1, 0, 0, 0, 0, 0, 0, 0, 0, (⟨0, 0, 0, 0, 0, 0, 0, 0, 0, 0, (⟨#[]⟩ : ByteArray), (⟨#[]⟩ : ByteArray)⟩ : S23), y222, ([] : List (S50))⟩ : S27), (⟨0, 0, 1, 0, 0, 0, 0, 0, 0, 0, 0, (⟨0, 0, 0, 0, 0, 0, 0, 0, 0, 0, (⟨#[]⟩ : ByteArray), (⟨#[]⟩ : ByteArray)⟩ : S23), y222, ([] : List (S50))⟩ : S27)] : List (S27))) 10).bind fun bt265 => (if bt226.1 = 11 then (if bt226.2 = 0 then (if bt228.1 = 101 then (if bt228.2 = 0 then (if bt230.2.2.2.2.2.2.2.2.1 = 453 then (if bt230.2.2.2.2.2.2.2.2.2.2.2.2.2.2.2.2.2.2.2.2.2.2.2.2.2.1 = 453 then (if bt230.2.2.2.2.2.2.2.2.2.2.2.2.2.2.2.2.2.2.2.2.2.2.2.2.2.2 = 0 then (if bt265.1 = 22 then (if bt265.2 = 0 then ((provision_Stage.f k 0 0 1 0 0 0 0 0 0 0 0 0 0 0 0 0 0 0 0 0 0 (⟨#[]⟩ : ByteArray) (⟨#[]⟩ : ByteArray) y222 ([] : List (S50)) 101).bind fun t267 => (if t267 = 3 then ((provision_Stage.f k 0 0 0 0 0 0 0 0 0 0 0 0 0 0 0 0 0 0 0 0 0 (⟨#[]⟩ : ByteArray) (⟨#[]⟩ : ByteArray) ([] : List (S54)) ([] : List (S50)) 5).bind fun t268 => (if t268 = 0 then ((provision_Rate.f 2).bind fun t269 => (if t269 = 100000 then ((provision_Rate.f 4).bind fun t270 => (some (t270 == 0))) else (some false))) else (some false))) else (some false))) else (some false)) else (some false)) else (some false)) else (some false)) else (some false)) else (some false)) else (some false)) else (some false)) else (some false)))))) = some true := by first | (rw [hy222]; with_reducible exact H) | (have H2_ := (Option.bind_some _ _).symm.trans H; rw [hy222]; with_reducible exact H2_) | (have H2_ := (Option.bind_some _ _).symm.trans H; with_reducible exact H2_) | with_reducible exact H | (rw [hy222]; exact H) | exact H
 have Ny222 := Aside0.mk hy222
 clear hy222
 replace H := Option.bind_eq_some_iff.mp H
 obtain ⟨⟨t226, t227⟩, A10, H⟩ := H
 replace H : ((provision_Expected.f k 0 0 1 0 0 0 0 0 0 0 0 0 0 0 0 0 0 0 0 0 0 (⟨#[]⟩ : ByteArray) (⟨#[]⟩ : ByteArray) y222 ([] : List (S50)) 41).bind fun bt228 => ((provision_Move.f k 0 0 1 0 0 0 0 0 0 0 0 0 0 0 0 0 0 0 0 0 0 (⟨#[]⟩ : ByteArray) (⟨#[]⟩ : ByteArray) y222 ([] : List (S50)) 101).bind fun bt230 => ((provision_Total.f k (([(⟨0, 0, 1, 0, 0, 0, 0, 0, 0, 0, 0, (⟨0, 0, 0, 0, 0, 0, 0, 0, 0, 0, (⟨#[]⟩ : ByteArray), (⟨#[]⟩ : ByteArray)⟩ : S23), y222, ([] : List (S50))⟩ : S27), (⟨0, 0, 1, 0, 0, 0, 0, 0, 0, 0, 0, (⟨0, 0, 0, 0, 0, 0, 0, 0, 0, 0, (⟨#[]⟩ : ByteArray), (⟨#[]⟩ : ByteArray)⟩ : S23), y222, ([] : List (S50))⟩ : S27)] : List (S27))) 10).bind fun bt265 => (if t226 = 11 then (if t227 = 0 then (if bt228.1 = 101 then (if bt228.2 = 0 then (if bt230.2.2.2.2.2.2.2.2.1 = 453 then (if bt230.2.2.2.2.2.2.2.2.2.2.2.2.2.2.2.2.2.2.2.2.2.2.2.2.2.1 = 453 then (if bt230.2.2.2.2.2.2.2.2.2.2.2.2.2.2.2.2.2.2.2.2.2.2.2.2.2.2 = 0 then (if bt265.1 = 22 then (if bt265.2 = 0 then ((provision_Stage.f k 0 0 1 0 0 0 0 0 0 0 0 0 0 0 0 0 0 0 0 0 0 (⟨#[]⟩ : ByteArray) (⟨#[]⟩ : ByteArray) y222 ([] : List (S50)) 101).bind fun t267 => (if t267 = 3 then ((provision_Stage.f k 0 0 0 0 0 0 0 0 0 0 0 0 0 0 0 0 0 0 0 0 0 (⟨#[]⟩ : ByteArray) (⟨#[]⟩ : ByteArray) ([] : List (S54)) ([] : List (S50)) 5).bind fun t268 => (if t268 = 0 then ((provision_Rate.f 2).bind fun t269 => (if t269 = 100000 then ((provision_Rate.f 4).bind fun t270 => (some (t270 == 0))) else (some false))) else (some false))) else (some false))) else (some false)) else (some false)) else (some false)) else (some false)) else (some false)) else (some false)) else (some false)) else (some false)) else (some false))))) = some true := H
 have A1 := Aside0.mk A10
 clear A10
 replace H := Option.bind_eq_some_iff.mp H
 obtain ⟨⟨t228, t229⟩, A20, H⟩ := H
 replace H : ((provision_Move.f k 0 0 1 0 0 0 0 0 0 0 0 0 0 0 0 0 0 0 0 0 0 (⟨#[]⟩ : ByteArray) (⟨#[]⟩ : ByteArray) y222 ([] : List (S50)) 101).bind fun bt230 => ((provision_Total.f k (([(⟨0, 0, 1, 0, 0, 0, 0, 0, 0, 0, 0, (⟨0, 0, 0, 0, 0, 0, 0, 0, 0, 0, (⟨#[]⟩ : ByteArray), (⟨#[]⟩ : ByteArray)⟩ : S23), y222, ([] : List (S50))⟩ : S27), (⟨0, 0, 1, 0, 0, 0, 0, 0, 0, 0, 0, (⟨0, 0, 0, 0, 0, 0, 0, 0, 0, 0, (⟨#[]⟩ : ByteArray), (⟨#[]⟩ : ByteArray)⟩ : S23), y222, ([] : List (S50))⟩ : S27)] : List (S27))) 10).bind fun bt265 => (if t226 = 11 then (if t227 = 0 then (if t228 = 101 then (if t229 = 0 then (if bt230.2.2.2.2.2.2.2.2.1 = 453 then (if bt230.2.2.2.2.2.2.2.2.2.2.2.2.2.2.2.2.2.2.2.2.2.2.2.2.2.1 = 453 then (if bt230.2.2.2.2.2.2.2.2.2.2.2.2.2.2.2.2.2.2.2.2.2.2.2.2.2.2 = 0 then (if bt265.1 = 22 then (if bt265.2 = 0 then ((provision_Stage.f k 0 0 1 0 0 0 0 0 0 0 0 0 0 0 0 0 0 0 0 0 0 (⟨#[]⟩ : ByteArray) (⟨#[]⟩ : ByteArray) y222 ([] : List (S50)) 101).bind fun t267 => (if t267 = 3 then ((provision_Stage.f k 0 0 0 0 0 0 0 0 0 0 0 0 0 0 0 0 0 0 0 0 0 (⟨#[]⟩ : ByteArray) (⟨#[]⟩ : ByteArray) ([] : List (S54)) ([] : List (S50)) 5).bind fun t268 => (if t268 = 0 then ((provision_Rate.f 2).bind fun t269 => (if t269 = 100000 then ((provision_Rate.f 4).bind fun t270 => (some (t270 == 0))) else (some false))) else (some false))) else (some false))) else (some false)) else (some false)) else (some false)) else (some false)) else (some false)) else (some false)) else (some false)) else (some false)) else (some false)))) = some true := H
 have A2 := Aside0.mk A20
 clear A20
 replace H := Option.bind_eq_some_iff.mp H
 obtain ⟨⟨t230, t231, t232, t233, t234, t235, t236, t237, t238, t239, t240, t241, t242, t243, t244, t245, t246, t247, t248, t249, t250, t251, t252, t253, t256, t259, t260⟩, A30, H⟩ := H
 replace H : ((provision_Total.f k (([(⟨0, 0, 1, 0, 0, 0, 0, 0, 0, 0, 0, (⟨0, 0, 0, 0, 0, 0, 0, 0, 0, 0, (⟨#[]⟩ : ByteArray), (⟨#[]⟩ : ByteArray)⟩ : S23), y222, ([] : List (S50))⟩ : S27), (⟨0, 0, 1, 0, 0, 0, 0, 0, 0, 0, 0, (⟨0, 0, 0, 0, 0, 0, 0, 0, 0, 0, (⟨#[]⟩ : ByteArray), (⟨#[]⟩ : ByteArray)⟩ : S23), y222, ([] : List (S50))⟩ : S27)] : List (S27))) 10).bind fun bt265 => (if t226 = 11 then (if t227 = 0 then (if t228 = 101 then (if t229 = 0 then (if t238 = 453 then (if t259 = 453 then (if t260 = 0 then (if bt265.1 = 22 then (if bt265.2 = 0 then ((provision_Stage.f k 0 0 1 0 0 0 0 0 0 0 0 0 0 0 0 0 0 0 0 0 0 (⟨#[]⟩ : ByteArray) (⟨#[]⟩ : ByteArray) y222 ([] : List (S50)) 101).bind fun t267 => (if t267 = 3 then ((provision_Stage.f k 0 0 0 0 0 0 0 0 0 0 0 0 0 0 0 0 0 0 0 0 0 (⟨#[]⟩ : ByteArray) (⟨#[]⟩ : ByteArray) ([] : List (S54)) ([] : List (S50)) 5).bind fun t268 => (if t268 = 0 then ((provision_Rate.f 2).bind fun t269 => (if t269 = 100000 then ((provision_Rate.f 4).bind fun t270 => (some (t270 == 0))) else (some false))) else (some false))) else (some false))) else (some false)) else (some false)) else (some false)) else (some false)) else (some false)) else (some false)) else (some false)) else (some false)) else (some false))) = some true := H
 have A3 := Aside0.mk A30
 clear A30
 obtain ⟨y262, hy262⟩ : ∃ y_ : List (S27), y_ = (([(⟨0, 0, 1, 0, 0, 0, 0, 0, 0, 0, 0, (⟨0, 0, 0, 0, 0, 0, 0, 0, 0, 0, (⟨#[]⟩ : ByteArray), (⟨#[]⟩ : ByteArray)⟩ : S23), y222, ([] : List (S50))⟩ : S27), (⟨0, 0, 1, 0, 0, 0, 0, 0, 0, 0, 0, (⟨0, 0, 0, 0, 0, 0, 0, 0, 0, 0, (⟨#[]⟩ : ByteArray), (⟨#[]⟩ : ByteArray)⟩ : S23), y222, ([] : List (S50))⟩ : S27)] : List (S27))) := ⟨_, rfl⟩
 replace H : ((provision_Total.f k y262 10).bind fun bt265 => (if t226 = 11 then (if t227 = 0 then (if t228 = 101 then (if t229 = 0 then (if t238 = 453 then (if t259 = 453 then (if t260 = 0 then (if bt265.1 = 22 then (if bt265.2 = 0 then ((provision_Stage.f k 0 0 1 0 0 0 0 0 0 0 0 0 0 0 0 0 0 0 0 0 0 (⟨#[]⟩ : ByteArray) (⟨#[]⟩ : ByteArray) y222 ([] : List (S50)) 101).bind fun t267 => (if t267 = 3 then ((provision_Stage.f k 0 0 0 0 0 0 0 0 0 0 0 0 0 0 0 0 0 0 0 0 0 (⟨#[]⟩ : ByteArray) (⟨#[]⟩ : ByteArray) ([] : List (S54)) ([] : List (S50)) 5).bind fun t268 => (if t268 = 0 then ((provision_Rate.f 2).bind fun t269 => (if t269 = 100000 then ((provision_Rate.f 4).bind fun t270 => (some (t270 == 0))) else (some false))) else (some false))) else (some false))) else (some false)) else (some false)) else (some false)) else (some false)) else (some false)) else (some false)) else (some false)) else (some false)) else (some false))) = some true := by first | (rw [hy262]; with_reducible exact H) | (have H2_ := (Option.bind_some _ _).symm.trans H; rw [hy262]; with_reducible exact H2_) | (have H2_ := (Option.bind_some _ _).symm.trans H; with_reducible exact H2_) | with_reducible exact H | (rw [hy262]; exact H) | exact H
 have Ny262 := Aside0.mk hy262
 clear hy262
 replace H := Option.bind_eq_some_iff.mp H
 obtain ⟨⟨t265, t266⟩, A40, H⟩ := H
 replace H : (if t226 = 11 then (if t227 = 0 then (if t228 = 101 then (if t229 = 0 then (if t238 = 453 then (if t259 = 453 then (if t260 = 0 then (if t265 = 22 then (if t266 = 0 then ((provision_Stage.f k 0 0 1 0 0 0 0 0 0 0 0 0 0 0 0 0 0 0 0 0 0 (⟨#[]⟩ : ByteArray) (⟨#[]⟩ : ByteArray) y222 ([] : List (S50)) 101).bind fun t267 => (if t267 = 3 then ((provision_Stage.f k 0 0 0 0 0 0 0 0 0 0 0 0 0 0 0 0 0 0 0 0 0 (⟨#[]⟩ : ByteArray) (⟨#[]⟩ : ByteArray) ([] : List (S54)) ([] : List (S50)) 5).bind fun t268 => (if t268 = 0 then ((provision_Rate.f 2).bind fun t269 => (if t269 = 100000 then ((provision_Rate.f 4).bind fun t270 => (some (t270 == 0))) else (some false))) else (some false))) else (some false))) else (some false)) else (some false)) else (some false)) else (some false)) else (some false)) else (some false)) else (some false)) else (some false)) else (some false)) = some true := H
 have A4 := Aside0.mk A40
 clear A40
 by_cases c5 : t226 = 11
 ·rw [if_pos c5] at H
  have c5b0 : (t226 == 11) = true := beq_iff_eq.mpr c5
  have c5b1 : (t226 != 11) = false := bne_eq_false_iff_eq.mpr c5
  clear c5
  by_cases c6 : t227 = 0
  ·rw [if_pos c6] at H
   have c6b0 : (t227 == 0) = true := beq_iff_eq.mpr c6
   have c6b1 : (t227 != 0) = false := bne_eq_false_iff_eq.mpr c6
   clear c6
   by_cases c7 : t228 = 101
   ·rw [if_pos c7] at H
    have c7b0 : (t228 == 101) = true := beq_iff_eq.mpr c7
    have c7b1 : (t228 != 101) = false := bne_eq_false_iff_eq.mpr c7
    clear c7
    by_cases c8 : t229 = 0
    ·rw [if_pos c8] at H
     have c8b0 : (t229 == 0) = true := beq_iff_eq.mpr c8
     have c8b1 : (t229 != 0) = false := bne_eq_false_iff_eq.mpr c8
     clear c8
     by_cases c9 : t238 = 453
     ·rw [if_pos c9] at H
      have c9b0 : (t238 == 453) = true := beq_iff_eq.mpr c9
      have c9b1 : (t238 != 453) = false := bne_eq_false_iff_eq.mpr c9
      clear c9
      by_cases c10 : t259 = 453
      ·rw [if_pos c10] at H
       have c10b0 : (t259 == 453) = true := beq_iff_eq.mpr c10
       have c10b1 : (t259 != 453) = false := bne_eq_false_iff_eq.mpr c10
       clear c10
       by_cases c11 : t260 = 0
       ·rw [if_pos c11] at H
        have c11b0 : (t260 == 0) = true := beq_iff_eq.mpr c11
        have c11b1 : (t260 != 0) = false := bne_eq_false_iff_eq.mpr c11
        clear c11
        by_cases c12 : t265 = 22
        ·rw [if_pos c12] at H
         have c12b0 : (t265 == 22) = true := beq_iff_eq.mpr c12
         have c12b1 : (t265 != 22) = false := bne_eq_false_iff_eq.mpr c12
         clear c12
         by_cases c13 : t266 = 0
         ·rw [if_pos c13] at H
          have c13b0 : (t266 == 0) = true := beq_iff_eq.mpr c13
          have c13b1 : (t266 != 0) = false := bne_eq_false_iff_eq.mpr c13
          clear c13
          replace H := Option.bind_eq_some_iff.mp H
          obtain ⟨t267, A140, H⟩ := H
          replace H : (if t267 = 3 then ((provision_Stage.f k 0 0 0 0 0 0 0 0 0 0 0 0 0 0 0 0 0 0 0 0 0 (⟨#[]⟩ : ByteArray) (⟨#[]⟩ : ByteArray) ([] : List (S54)) ([] : List (S50)) 5).bind fun t268 => (if t268 = 0 then ((provision_Rate.f 2).bind fun t269 => (if t269 = 100000 then ((provision_Rate.f 4).bind fun t270 => (some (t270 == 0))) else (some false))) else (some false))) else (some false)) = some true := H
          have A14 := Aside0.mk A140
          clear A140
          by_cases c15 : t267 = 3
          ·rw [if_pos c15] at H
           have c15b0 : (t267 == 3) = true := beq_iff_eq.mpr c15
           have c15b1 : (t267 != 3) = false := bne_eq_false_iff_eq.mpr c15
           clear c15
           replace H := Option.bind_eq_some_iff.mp H
           obtain ⟨t268, A160, H⟩ := H
           replace H : (if t268 = 0 then ((provision_Rate.f 2).bind fun t269 => (if t269 = 100000 then ((provision_Rate.f 4).bind fun t270 => (some (t270 == 0))) else (some false))) else (some false)) = some true := H
           have A16 := Aside0.mk A160
           clear A160
           by_cases c17 : t268 = 0
           ·rw [if_pos c17] at H
            have c17b0 : (t268 == 0) = true := beq_iff_eq.mpr c17
            have c17b1 : (t268 != 0) = false := bne_eq_false_iff_eq.mpr c17
            clear c17
            replace H := Option.bind_eq_some_iff.mp H
            obtain ⟨t269, A180, H⟩ := H
            replace H : (if t269 = 100000 then ((provision_Rate.f 4).bind fun t270 => (some (t270 == 0))) else (some false)) = some true := H
            have A18 := Aside0.mk A180
            clear A180
            by_cases c19 : t269 = 100000
            ·rw [if_pos c19] at H
             have c19b0 : (t269 == 100000) = true := beq_iff_eq.mpr c19
             have c19b1 : (t269 != 100000) = false := bne_eq_false_iff_eq.mpr c19
             clear c19
             replace H := Option.bind_eq_some_iff.mp H
             obtain ⟨t270, A200, H⟩ := H
             replace H : (some (t270 == 0)) = some true := H
             have A20 := Aside0.mk A200
             clear A200
             have HL_ := Option.some.inj H
             have CS1 := Aside0.mk (show ∀ (W : World) (A : Option Addr) (c : Nat), GW W → Kd.C k54 W A y222.length y222 → y222.length ≤ c → Calls Tryd.prog 9 #[.agg #[.int .i64 0, .int .i64 0, .int .i64 1, .int .i64 0, .int .i64 0, .int .i64 0, .int .i64 0, .int .i64 0, .int .i64 0, .int .i64 0, .int .i64 0, .int .i64 0, .int .i64 0, .int .i64 0, .int .i64 0, .int .i64 0, .int .i64 0, .int .i64 0, .int .i64 0, .int .i64 0, .int .i64 0, .string ⟨#[]⟩, .string ⟨#[]⟩, .slice A y222.length c, .slice none 0 0], .int .i64 101] W (fun e w' => e = .returned (.int .i64 t267) ∧ Below W.heap.size W w') from fun W A c hG hC hc => provision_Stage.calls k 0 0 1 0 0 0 0 0 0 0 0 0 0 0 0 0 0 0 0 0 0  (⟨#[]⟩ : ByteArray) (⟨#[]⟩ : ByteArray) A c y222 none 0 [] 101 t267 W hG hC hc (Kd.C_nil _ _) (Nat.le_refl _) A14.out)
             have CS2 := Aside0.mk (show ∀ (W : World), GW W → Calls Tryd.prog 9 #[.agg #[.int .i64 0, .int .i64 0, .int .i64 0, .int .i64 0, .int .i64 0, .int .i64 0, .int .i64 0, .int .i64 0, .int .i64 0, .int .i64 0, .int .i64 0, .int .i64 0, .int .i64 0, .int .i64 0, .int .i64 0, .int .i64 0, .int .i64 0, .int .i64 0, .int .i64 0, .int .i64 0, .int .i64 0, .string ⟨#[]⟩, .string ⟨#[]⟩, .slice none 0 0, .slice none 0 0], .int .i64 5] W (fun e w' => e = .returned (.int .i64 t268) ∧ Below W.heap.size W w') from fun W hG => provision_Stage.calls k 0 0 0 0 0 0 0 0 0 0 0 0 0 0 0 0 0 0 0 0 0  (⟨#[]⟩ : ByteArray) (⟨#[]⟩ : ByteArray) none 0 [] none 0 [] 5 t268 W hG (Kd.C_nil _ _) (Nat.le_refl _) (Kd.C_nil _ _) (Nat.le_refl _) A16.out)
             go_enter Tryd.func13, Tryd.ntmps13
             go_wp2_with (first | ((with_reducible refine gate_store (t := 27) rfl ?_); refine st26_ (g := gb225) #[.int .i64 0, .int .i64 0, .int .i64 1, .int .i64 0, .int .i64 0, .int .i64 0, .int .i64 0, .int .i64 0, .int .i64 0, .int .i64 0, .int .i64 0, .int .i64 0, .int .i64 0, .int .i64 0, .int .i64 0, .int .i64 0, .int .i64 0, .int .i64 0, .int .i64 0, .int .i64 0, .int .i64 0, .string (⟨#[]⟩ : ByteArray), .string (⟨#[]⟩ : ByteArray), .slice Ao23 y222.length co23, .slice none 0 0] rfl rfl rfl rfl rfl (qk_ BK225.out) (by kernel_rfl) (by rfl) rfl ?_; intro w_ hnew_ hoth_ hbel_; have HO224_ := Aside0.mk (Kd.R_mono (Kd.R_move (Kd.R_types HO224.out BK225.out (by decide)) (fun k hk => hoth_ k hk.2)) (fun _ h_ => h_.1)); clear HO224; have HO224 := HO224_; clear HO224_; have n0_ := Aside0.mk hnew_; have n1_ := Aside0.mk (hbel_ _ _ (qb1_ GE225.out HB.out) GE225.out); clear BK225; clear HB; have BK225 := n0_; have HB := n1_; clear n0_ n1_ hnew_ hbel_ hoth_) | ((with_reducible refine gate_load_ (t := 27) rfl ?_); refine ld_ (t := 27) Tryd.underlying27 rfl rfl rfl (by (with_reducible repeat (first | refine blk_drewN ?_ _ | refine blk_drew ?_ | refine blk_alloc ?_ _)); (with_reducible first | exact BK225.out | exact BK261.out)) rfl (by kernel_rfl) ?_) | ((with_reducible refine gate_load_ (t := 27) rfl ?_); refine ldg26_ (t := 27) Tryd.underlying27 rfl (by rfl) rfl (by (with_reducible repeat (first | refine blk_drewN ?_ _ | refine blk_drew ?_ | refine blk_alloc ?_ _)); (with_reducible first | exact BK225.out | exact BK261.out)) rfl (by kernel_rfl) ?_) | ((with_reducible refine gate_dst (N := 12) rfl ?_); refine Kd.R_lit k54 _ 54 ?hg (N := 12) ?hd (xs := ([(⟨1, 10, 1005, 0⟩ : S54)] : List (S54))) (inner := [.int .i64 1, .int .i64 10, .int .i64 1005, .int .i64 0]) (ok := fun _ => True) (okp := fun _ => True) ?hr ?hp (fun _ hk => hk) trivial (Below.refl _ _) (Nat.le_refl _) (by simp) ?_; (case hd => rfl); (case hg => rfl); (case hr => first | (go_simp; done) | (go_simp; rfl)); (case hp => exact (Reps.c4 (show Kd.M k54 _ _ _ (⟨1, 10, 1005, 0⟩ : S54) [.int .i64 1, .int .i64 10, .int .i64 1005, .int .i64 0] from (k54_mkM _ _ _ (⟨1, 10, 1005, 0⟩ : S54) )) (Reps.none _ _))); intro v223 w21 ho22 hb hg_ hnew_; clear hg_ hnew_; (first | rw [← Ny222.out] at ho22 | (simp only [Int.reduceToNat] at ho22; rw [← Ny222.out] at ho22)); have n0_ := Aside0.mk (Kd.R_lower ho22 (below_size (qb_ HB.out))); have n1_ := Aside0.mk (below_step (qb_ HB.out) hb); clear HB; have HO224 := n0_; have HB := n1_; clear n0_ n1_; clear hb ho22; obtain ⟨Ao23, co23, eo23⟩ := Kd.R_slice HO224.out; subst eo23) | ((with_reducible refine gate_dst (N := 1) rfl ?_); refine be_ (N := 1) (cs := #[.int .i64 0, .int .i64 0, .int .i64 0, .int .i64 0, .int .i64 0, .int .i64 0, .int .i64 0, .int .i64 0, .int .i64 0, .int .i64 0, .int .i64 0, .int .i64 0, .int .i64 0, .int .i64 0, .int .i64 0, .int .i64 0, .int .i64 0, .int .i64 0, .int .i64 0, .int .i64 0, .int .i64 0, .string (⟨#[]⟩ : ByteArray), .string (⟨#[]⟩ : ByteArray), .slice none 0 0, .slice none 0 0]) (t := 27) ?_; intro gb225 hg w24 hbox hb; have n0_ := Aside0.mk (Kd.R_below (by (with_reducible repeat (first | apply Kd.R_alloc | apply Kd.R_drewN | apply Kd.R_drew)); exact HO224.out) hb); have n1_ := Aside0.mk (below_step (qb_ HB.out) hb); have n2_ := Aside0.mk (hbox); have n3_ := Aside0.mk (bz_ hg (qb_ HB.out) : w.heap.size ≤ gb225); have n4_ := n3_; clear HO224; clear HB; have HO224 := n0_; have HB := n1_; have BK225 := n2_; have GW225 := n3_; have GE225 := n4_; clear n0_ n1_ n2_ n3_ n4_; clear hb hbox hg; obtain ⟨Z25_0, Z25_1, Z25_2, Z25_3, Z25_4, Z25_5, Z25_6, Z25_7, Z25_8, Z25_9, Z25_10, Z25_11, Z25_12, Z25_13, Z25_14, Z25_15, Z25_16, Z25_17, Z25_18, Z25_19, Z25_20, Z25_21, Z25_22, Z25_23, Z25_24, Y25_0, Y25_1, Y25_2, Y25_3, Y25_4, Y25_5, Y25_6, Y25_7, Y25_8, Y25_9, Y25_10, Y25_11, Y25_12, Y25_13, Y25_14, Y25_15, Y25_16, Y25_17, Y25_18, Y25_19, Y25_20, Y25_21, Y25_22, Y25_23, Y25_24⟩ := cz25_ BK225.out) | ((with_reducible refine gate_callee (f := 14) rfl ?_); refine goesL_ (some 16) rfl rfl Tryd.func14 (by kernel_rfl) rfl #[.agg #[.int .i64 0, .int .i64 0, .int .i64 1, .int .i64 0, .int .i64 0, .int .i64 0, .int .i64 0, .int .i64 0, .int .i64 0, .int .i64 0, .int .i64 0, .int .i64 0, .int .i64 0, .int .i64 0, .int .i64 0, .int .i64 0, .int .i64 0, .int .i64 0, .int .i64 0, .int .i64 0, .int .i64 0, .string (⟨#[]⟩ : ByteArray), .string (⟨#[]⟩ : ByteArray), .slice Ao23 y222.length co23, .slice none 0 0], .int .i64 10] rfl ql_ ?_; (refine (provision_Expected.calls (hG := by first | exact hG | (with_reducible exact GW.below hG (qb1_ GE225.out HB.out)) | (with_reducible repeat (first | exact hG | apply GW.drewN | apply GW.drew))) k 0 0 1 0 0 0 0 0 0 0 0 0 0 0 0 0 0 0 0 0 0 (⟨#[]⟩ : ByteArray) (⟨#[]⟩ : ByteArray) _ _ y222 _ _ ([] : List (S50)) 10 t226 t227 _ ?side1 ?side2 ?side3 ?side4 A1.out).mono ?_); (case side1 => refine (Kd.R_reads' (e := 54) (base := w.heap.size) (ok := fun k_ => True) (n := y222.length) (c := co23) ?_).2.2; exact (by (with_reducible repeat (first | apply Kd.R_alloc | apply Kd.R_drewN | apply Kd.R_drew)); exact ((HO224.out)))); (case side2 => exact (Kd.R_reads' HO224.out).2.1); (case side3 => exact Kd.C_nil _ _); (case side4 => exact Nat.le_refl _); rintro e w26 ⟨rfl, hb⟩; refine ⟨_, rfl, ?_⟩; have n0_ := Aside0.mk (Kd.R_below (by (with_reducible repeat (first | apply Kd.R_alloc | apply Kd.R_drewN | apply Kd.R_drew)); exact ((HO224.out))) hb); have n1_ := Aside0.mk (blk_below (qk_ BK225.out) hb); have n2_ := Aside0.mk (below_step (qb1_ GE225.out HB.out) hb); clear HO224; clear BK225; clear HB; have HO224 := n0_; have BK225 := n1_; have HB := n2_; clear n0_ n1_ n2_; (try clear hb); (try clear hb2); (try clear hk); (try clear hi); obtain ⟨Z27_0, Z27_1, Z27_2, Z27_3, Z27_4, Z27_5, Z27_6, Z27_7, Z27_8, Z27_9, Z27_10, Z27_11, Z27_12, Z27_13, Z27_14, Z27_15, Z27_16, Z27_17, Z27_18, Z27_19, Z27_20, Z27_21, Z27_22, Z27_23, Z27_24, Y27_0, Y27_1, Y27_2, Y27_3, Y27_4, Y27_5, Y27_6, Y27_7, Y27_8, Y27_9, Y27_10, Y27_11, Y27_12, Y27_13, Y27_14, Y27_15, Y27_16, Y27_17, Y27_18, Y27_19, Y27_20, Y27_21, Y27_22, Y27_23, Y27_24⟩ := cz25_ BK225.out) | ((with_reducible refine gate_callee (f := 14) rfl ?_); refine goesL_ (some 21) rfl rfl Tryd.func14 (by kernel_rfl) rfl #[.agg #[.int .i64 0, .int .i64 0, .int .i64 1, .int .i64 0, .int .i64 0, .int .i64 0, .int .i64 0, .int .i64 0, .int .i64 0, .int .i64 0, .int .i64 0, .int .i64 0, .int .i64 0, .int .i64 0, .int .i64 0, .int .i64 0, .int .i64 0, .int .i64 0, .int .i64 0, .int .i64 0, .int .i64 0, .string (⟨#[]⟩ : ByteArray), .string (⟨#[]⟩ : ByteArray), .slice Ao23 y222.length co23, .slice none 0 0], .int .i64 41] rfl ql_ ?_; (refine (provision_Expected.calls (hG := by first | exact hG | (with_reducible exact GW.below hG (qb1_ GE225.out HB.out)) | (with_reducible repeat (first | exact hG | apply GW.drewN | apply GW.drew))) k 0 0 1 0 0 0 0 0 0 0 0 0 0 0 0 0 0 0 0 0 0 (⟨#[]⟩ : ByteArray) (⟨#[]⟩ : ByteArray) _ _ y222 _ _ ([] : List (S50)) 41 t228 t229 _ ?side1 ?side2 ?side3 ?side4 A2.out).mono ?_); (case side1 => repeat (first | exact (Kd.R_reads' HO224.out).2.2 | (with_reducible refine Kd.C_alloc ?_ _) | (with_reducible refine Kd.C_drewN ?_ _) | (with_reducible refine Kd.C_drew ?_))); (case side2 => exact (Kd.R_reads' HO224.out).2.1); (case side3 => exact Kd.C_nil _ _); (case side4 => exact Nat.le_refl _); rintro e w28 ⟨rfl, hb⟩; refine ⟨_, rfl, ?_⟩; have n0_ := Aside0.mk (Kd.R_below (by (with_reducible repeat (first | apply Kd.R_alloc | apply Kd.R_drewN | apply Kd.R_drew)); exact HO224.out) hb); have n1_ := Aside0.mk (blk_below (qk_ BK225.out) hb); have n2_ := Aside0.mk (below_step (qb1_ GE225.out HB.out) hb); clear HO224; clear BK225; clear HB; have HO224 := n0_; have BK225 := n1_; have HB := n2_; clear n0_ n1_ n2_; (try clear hb); (try clear hb2); (try clear hk); (try clear hi); obtain ⟨Z29_0, Z29_1, Z29_2, Z29_3, Z29_4, Z29_5, Z29_6, Z29_7, Z29_8, Z29_9, Z29_10, Z29_11, Z29_12, Z29_13, Z29_14, Z29_15, Z29_16, Z29_17, Z29_18, Z29_19, Z29_20, Z29_21, Z29_22, Z29_23, Z29_24, Y29_0, Y29_1, Y29_2, Y29_3, Y29_4, Y29_5, Y29_6, Y29_7, Y29_8, Y29_9, Y29_10, Y29_11, Y29_12, Y29_13, Y29_14, Y29_15, Y29_16, Y29_17, Y29_18, Y29_19, Y29_20, Y29_21, Y29_22, Y29_23, Y29_24⟩ := cz25_ BK225.out) | ((with_reducible refine gate_callee (f := 16) rfl ?_); refine goesL_ (some 26) rfl rfl Tryd.func16 (by kernel_rfl) rfl #[.agg #[.int .i64 0, .int .i64 0, .int .i64 1, .int .i64 0, .int .i64 0, .int .i64 0, .int .i64 0, .int .i64 0, .int .i64 0, .int .i64 0, .int .i64 0, .int .i64 0, .int .i64 0, .int .i64 0, .int .i64 0, .int .i64 0, .int .i64 0, .int .i64 0, .int .i64 0, .int .i64 0, .int .i64 0, .string (⟨#[]⟩ : ByteArray), .string (⟨#[]⟩ : ByteArray), .slice Ao23 y222.length co23, .slice none 0 0], .int .i64 101] rfl ql_ ?_; (refine (provision_Move.calls (hG := by first | exact hG | (with_reducible exact GW.below hG (qb1_ GE225.out HB.out)) | (with_reducible repeat (first | exact hG | apply GW.drewN | apply GW.drew))) k 0 0 1 0 0 0 0 0 0 0 0 0 0 0 0 0 0 0 0 0 0 (⟨#[]⟩ : ByteArray) (⟨#[]⟩ : ByteArray) _ _ y222 _ _ ([] : List (S50)) 101 t230 t231 t232 t233 t234 t235 t236 t237 t238 t239 t240 t241 t242 t243 t244 t245 t246 t247 t248 t249 t250 t251 t252 t253 t256 t259 t260 _ ?side1 ?side2 ?side3 ?side4 A3.out).mono ?_); (case side1 => repeat (first | exact (Kd.R_reads' HO224.out).2.2 | (with_reducible refine Kd.C_alloc ?_ _) | (with_reducible refine Kd.C_drewN ?_ _) | (with_reducible refine Kd.C_drew ?_))); (case side2 => exact (Kd.R_reads' HO224.out).2.1); (case side3 => exact Kd.C_nil _ _); (case side4 => exact Nat.le_refl _); rintro e w30 ⟨v254, v257, rfl, ho0, ho1, hb⟩; refine ⟨_, rfl, ?_⟩; have n0_ := Aside0.mk (Kd.R_elder' (by (with_reducible repeat (first | apply Kd.R_alloc | apply Kd.R_drewN | apply Kd.R_drew)); exact HO224.out) (Kd.R_base ho0) hb); have n1_ := Aside0.mk (Kd.R_lower (Kd.R_new' ho0 (Kd.R_lt (by (with_reducible repeat (first | apply Kd.R_alloc | apply Kd.R_drewN | apply Kd.R_drew)); exact HO224.out))) (below_size (qb1_ GE225.out HB.out))); have n2_ := Aside0.mk (Kd.R_lower ho1 (below_size (qb1_ GE225.out HB.out))); have n3_ := Aside0.mk (blk_below (qk_ BK225.out) hb); have n4_ := Aside0.mk (below_step (qb1_ GE225.out HB.out) hb); clear HO224; clear BK225; clear HB; have HO224 := n0_; have HO255 := n1_; have HO258 := n2_; have BK225 := n3_; have HB := n4_; clear n0_ n1_ n2_ n3_ n4_; (try clear hb); (try clear hb2); (try clear hk); (try clear hi); (try clear ho0); (try clear ho1)) | ((with_reducible refine gate_dst (N := 6) rfl ?_); refine be_ (N := 6) (cs := #[.int .i64 0, .int .i64 0, .int .i64 0, .int .i64 0, .int .i64 0, .int .i64 0, .int .i64 0, .int .i64 0, .int .i64 0, .int .i64 0, .int .i64 0, .int .i64 0, .int .i64 0, .int .i64 0, .int .i64 0, .int .i64 0, .int .i64 0, .int .i64 0, .int .i64 0, .int .i64 0, .int .i64 0, .string (⟨#[]⟩ : ByteArray), .string (⟨#[]⟩ : ByteArray), .slice none 0 0, .slice none 0 0]) (t := 27) ?_; intro gb261 hg w31 hbox hb; have n0_ := Aside0.mk (Kd.R_below (by (with_reducible repeat (first | apply Kd.R_alloc | apply Kd.R_drewN | apply Kd.R_drew)); exact HO224.out) hb); have n1_ := Aside0.mk (Kd.R_below (by (with_reducible repeat (first | apply Kd.R_alloc | apply Kd.R_drewN | apply Kd.R_drew)); exact HO255.out) hb); have n2_ := Aside0.mk (Kd.R_below (by (with_reducible repeat (first | apply Kd.R_alloc | apply Kd.R_drewN | apply Kd.R_drew)); exact HO258.out) hb); have n3_ := Aside0.mk (blk_below (qk_ BK225.out) hb); have n4_ := Aside0.mk (below_step (qb1_ GE225.out HB.out) hb); have n5_ := Aside0.mk (hbox); have n6_ := Aside0.mk (bz_ hg (qb1_ GE225.out HB.out) : w.heap.size ≤ gb261); have n7_ := n6_; have n8_ := Aside0.mk (nl_ hg (qk_ BK225.out) : gb225 ≠ gb261); have n9_ := Aside0.mk (ng_ hg (qk_ BK225.out) : gb261 ≠ gb225); clear HO224; clear HO255; clear HO258; clear BK225; clear HB; have HO224 := n0_; have HO255 := n1_; have HO258 := n2_; have BK225 := n3_; have HB := n4_; have BK261 := n5_; have GW261 := n6_; have GE261 := n7_; have NB225_261 := n8_; have NB261_225 := n9_; clear n0_ n1_ n2_ n3_ n4_ n5_ n6_ n7_ n8_ n9_; clear hb hbox hg; have hnb32 := NB261_225.out; have hnc32 := NB225_261.out; obtain ⟨Z33_0, Z33_1, Z33_2, Z33_3, Z33_4, Z33_5, Z33_6, Z33_7, Z33_8, Z33_9, Z33_10, Z33_11, Z33_12, Z33_13, Z33_14, Z33_15, Z33_16, Z33_17, Z33_18, Z33_19, Z33_20, Z33_21, Z33_22, Z33_23, Z33_24, Y33_0, Y33_1, Y33_2, Y33_3, Y33_4, Y33_5, Y33_6, Y33_7, Y33_8, Y33_9, Y33_10, Y33_11, Y33_12, Y33_13, Y33_14, Y33_15, Y33_16, Y33_17, Y33_18, Y33_19, Y33_20, Y33_21, Y33_22, Y33_23, Y33_24⟩ := cz25_ BK261.out; obtain ⟨Ao34, co34, eo34⟩ := Kd.R_slice HO255.out; subst eo34; obtain ⟨Ao35, co35, eo35⟩ := Kd.R_slice HO258.out; subst eo35) | ((with_reducible refine gate_store (t := 27) (p := 6) rfl ?_); refine st26_ (g := gb261) #[.int .i64 t230, .int .i64 t231, .int .i64 t232, .int .i64 t233, .int .i64 t234, .int .i64 t235, .int .i64 t236, .int .i64 t237, .int .i64 t238, .int .i64 t239, .int .i64 t240, .int .i64 t241, .int .i64 t242, .int .i64 t243, .int .i64 t244, .int .i64 t245, .int .i64 t246, .int .i64 t247, .int .i64 t248, .int .i64 t249, .int .i64 t250, .string t251, .string t252, .slice Ao34 t253.length co34, .slice Ao35 t256.length co35] rfl rfl rfl rfl rfl (qk_ BK261.out) (by kernel_rfl) (by rfl) rfl ?_; intro w36 hnew_ hoth_ hbel_; have n0_ : Aside0 (Kd.R k54 54 w36 w.heap.size (fun k_ => some k_ ≠ (.slice Ao34 t253.length co34 : Value).ownBlock) (.slice Ao23 y222.length co23) y222) := ⟨(by exact (by (with_reducible repeat (first | apply Kd.R_alloc | apply Kd.R_drewN | apply Kd.R_drew)); exact Kd.R_mono (Kd.R_move (Kd.R_types HO224.out BK261.out (by decide)) (fun k hk => hoth_ k hk.2)) (fun _ hk => hk.1.2)))⟩; have n1_ : Aside0 (Kd.R k54 54 w36 w.heap.size (fun k_ => some k_ ≠ (.slice Ao23 y222.length co23 : Value).ownBlock) (.slice Ao34 t253.length co34) t253) := ⟨(by exact (by (with_reducible repeat (first | apply Kd.R_alloc | apply Kd.R_drewN | apply Kd.R_drew)); exact Kd.R_mono (Kd.R_move (Kd.R_types HO255.out BK261.out (by decide)) (fun k hk => hoth_ k hk.2)) (fun _ hk => hk.1.2)))⟩; have n2_ : Aside0 (Kd.R k50 50 w36 w.heap.size (fun _ => True) (.slice Ao35 t256.length co35) t256) := ⟨(by exact (by (with_reducible repeat (first | apply Kd.R_alloc | apply Kd.R_drewN | apply Kd.R_drew)); exact Kd.R_mono (Kd.R_move (Kd.R_types HO258.out BK261.out (by decide)) (fun k hk => hoth_ k hk.2)) (fun _ hk => trivial)))⟩; have n3_ : Aside0 (w36.heap[gb225]? = some (.cells #[.int .i64 0, .int .i64 0, .int .i64 1, .int .i64 0, .int .i64 0, .int .i64 0, .int .i64 0, .int .i64 0, .int .i64 0, .int .i64 0, .int .i64 0, .int .i64 0, .int .i64 0, .int .i64 0, .int .i64 0, .int .i64 0, .int .i64 0, .int .i64 0, .int .i64 0, .int .i64 0, .int .i64 0, .string (⟨#[]⟩ : ByteArray), .string (⟨#[]⟩ : ByteArray), .slice Ao23 y222.length co23, .slice none 0 0] 27 (0, 0))) := ⟨(hoth_ _ NB225_261.out).trans BK225.out⟩; have n4_ : Aside0 (w36.heap[gb261]? = some (.cells #[.int .i64 t230, .int .i64 t231, .int .i64 t232, .int .i64 t233, .int .i64 t234, .int .i64 t235, .int .i64 t236, .int .i64 t237, .int .i64 t238, .int .i64 t239, .int .i64 t240, .int .i64 t241, .int .i64 t242, .int .i64 t243, .int .i64 t244, .int .i64 t245, .int .i64 t246, .int .i64 t247, .int .i64 t248, .int .i64 t249, .int .i64 t250, .string t251, .string t252, .slice Ao34 t253.length co34, .slice Ao35 t256.length co35] 27 (0, 0))) := ⟨hnew_⟩; have n5_ : Aside0 (Below w.heap.size w w36) := ⟨hbel_ _ _ (qb2_ GE225.out GE261.out HB.out) GE261.out⟩; clear hnew_ hoth_ hbel_; clear HO224; clear HO255; clear HO258; clear BK225; clear BK261; clear HB; have HO224 := n0_; have HO255 := n1_; have HO258 := n2_; have BK225 := n3_; have BK261 := n4_; have HB := n5_; clear n0_ n1_ n2_ n3_ n4_ n5_; obtain ⟨Z37_0, Z37_1, Z37_2, Z37_3, Z37_4, Z37_5, Z37_6, Z37_7, Z37_8, Z37_9, Z37_10, Z37_11, Z37_12, Z37_13, Z37_14, Z37_15, Z37_16, Z37_17, Z37_18, Z37_19, Z37_20, Z37_21, Z37_22, Z37_23, Z37_24, Y37_0, Y37_1, Y37_2, Y37_3, Y37_4, Y37_5, Y37_6, Y37_7, Y37_8, Y37_9, Y37_10, Y37_11, Y37_12, Y37_13, Y37_14, Y37_15, Y37_16, Y37_17, Y37_18, Y37_19, Y37_20, Y37_21, Y37_22, Y37_23, Y37_24⟩ := cz25_ BK225.out) | ((with_reducible refine gate_dst (N := 33) rfl ?_); refine Kd.N_lit k27 _ 27 ?hg (N' := 33) ?hd (xs := ([(⟨0, 0, 1, 0, 0, 0, 0, 0, 0, 0, 0, (⟨0, 0, 0, 0, 0, 0, 0, 0, 0, 0, (⟨#[]⟩ : ByteArray), (⟨#[]⟩ : ByteArray)⟩ : S23), y222, ([] : List (S50))⟩ : S27), (⟨0, 0, 1, 0, 0, 0, 0, 0, 0, 0, 0, (⟨0, 0, 0, 0, 0, 0, 0, 0, 0, 0, (⟨#[]⟩ : ByteArray), (⟨#[]⟩ : ByteArray)⟩ : S23), y222, ([] : List (S50))⟩ : S27)] : List (S27))) (inner := [.int .i64 0, .int .i64 0, .int .i64 1, .int .i64 0, .int .i64 0, .int .i64 0, .int .i64 0, .int .i64 0, .int .i64 0, .int .i64 0, .int .i64 0, .int .i64 0, .int .i64 0, .int .i64 0, .int .i64 0, .int .i64 0, .int .i64 0, .int .i64 0, .int .i64 0, .int .i64 0, .int .i64 0, .string (⟨#[]⟩ : ByteArray), .string (⟨#[]⟩ : ByteArray), .slice Ao23 y222.length co23, .slice none 0 0, .int .i64 0, .int .i64 0, .int .i64 1, .int .i64 0, .int .i64 0, .int .i64 0, .int .i64 0, .int .i64 0, .int .i64 0, .int .i64 0, .int .i64 0, .int .i64 0, .int .i64 0, .int .i64 0, .int .i64 0, .int .i64 0, .int .i64 0, .int .i64 0, .int .i64 0, .int .i64 0, .int .i64 0, .string (⟨#[]⟩ : ByteArray), .string (⟨#[]⟩ : ByteArray), .slice Ao23 y222.length co23, .slice none 0 0]) (ok := (fun k_ => some k_ ≠ (.slice Ao34 t253.length co34 : Value).ownBlock ∧ some k_ ≠ (.slice Ao35 t256.length co35 : Value).ownBlock ∧ k_ ≠ gb225 ∧ k_ ≠ gb261)) (okp := (fun k_ => some k_ ≠ (.slice Ao34 t253.length co34 : Value).ownBlock ∧ some k_ ≠ (.slice Ao35 t256.length co35 : Value).ownBlock ∧ k_ ≠ gb225 ∧ k_ ≠ gb261)) ?hr ?hp (fun _ hk => hk) ((show ∀ k_, w36.heap.size ≤ k_ → (fun k_ => some k_ ≠ (.slice Ao34 t253.length co34 : Value).ownBlock ∧ some k_ ≠ (.slice Ao35 t256.length co35 : Value).ownBlock ∧ k_ ≠ gb225 ∧ k_ ≠ gb261) k_ from fun k_ hk => ⟨Kd.fresh' (Kd.R_lt (by (with_reducible repeat (first | apply Kd.R_alloc | apply Kd.R_drewN | apply Kd.R_drew)); exact HO255.out)) k_ hk, Kd.fresh' (Kd.R_lt (by (with_reducible repeat (first | apply Kd.R_alloc | apply Kd.R_drewN | apply Kd.R_drew)); exact HO258.out)) k_ hk, Kd.freshB (g := gb225) (o := .cells #[.int .i64 0, .int .i64 0, .int .i64 1, .int .i64 0, .int .i64 0, .int .i64 0, .int .i64 0, .int .i64 0, .int .i64 0, .int .i64 0, .int .i64 0, .int .i64 0, .int .i64 0, .int .i64 0, .int .i64 0, .int .i64 0, .int .i64 0, .int .i64 0, .int .i64 0, .int .i64 0, .int .i64 0, .string (⟨#[]⟩ : ByteArray), .string (⟨#[]⟩ : ByteArray), .slice Ao23 y222.length co23, .slice none 0 0] 27 (0, 0)) (qk_ BK225.out) k_ hk, Kd.freshB (g := gb261) (o := .cells #[.int .i64 t230, .int .i64 t231, .int .i64 t232, .int .i64 t233, .int .i64 t234, .int .i64 t235, .int .i64 t236, .int .i64 t237, .int .i64 t238, .int .i64 t239, .int .i64 t240, .int .i64 t241, .int .i64 t242, .int .i64 t243, .int .i64 t244, .int .i64 t245, .int .i64 t246, .int .i64 t247, .int .i64 t248, .int .i64 t249, .int .i64 t250, .string t251, .string t252, .slice Ao34 t253.length co34, .slice Ao35 t256.length co35] 27 (0, 0)) (qk_ BK261.out) k_ hk⟩) _ (Nat.le_refl _)) (Below.refl _ _) (Nat.le_refl _) (by simp) ?_; (case hd => rfl); (case hg => rfl); (case hr => first | (go_simp; done) | (go_simp; rfl)); (case hp => exact (Reps.front (show Kd.FK k27 _ _ (⟨0, 0, 1, 0, 0, 0, 0, 0, 0, 0, 0, (⟨0, 0, 0, 0, 0, 0, 0, 0, 0, 0, (⟨#[]⟩ : ByteArray), (⟨#[]⟩ : ByteArray)⟩ : S23), y222, ([] : List (S50))⟩ : S27) [.int .i64 0, .int .i64 0, .int .i64 1, .int .i64 0, .int .i64 0, .int .i64 0, .int .i64 0, .int .i64 0, .int .i64 0, .int .i64 0, .int .i64 0, .int .i64 0, .int .i64 0, .int .i64 0, .int .i64 0, .int .i64 0, .int .i64 0, .int .i64 0, .int .i64 0, .int .i64 0, .int .i64 0, .string (⟨#[]⟩ : ByteArray), .string (⟨#[]⟩ : ByteArray), .slice Ao23 y222.length co23, .slice none 0 0] from (k27_mkF _ _ (⟨0, 0, 1, 0, 0, 0, 0, 0, 0, 0, 0, (⟨0, 0, 0, 0, 0, 0, 0, 0, 0, 0, (⟨#[]⟩ : ByteArray), (⟨#[]⟩ : ByteArray)⟩ : S23), y222, ([] : List (S50))⟩ : S27) (Kd.R_reads' (Kd.R_mono (ok' := (fun k_ => some k_ ≠ (.slice Ao34 t253.length co34 : Value).ownBlock ∧ some k_ ≠ (.slice Ao35 t256.length co35 : Value).ownBlock ∧ k_ ≠ gb225 ∧ k_ ≠ gb261)) (Kd.R_types (Kd.R_types (Kd.R_apart' (HO224.out) (Kd.R_typed HO258.out) (by decide)) BK225.out (by decide)) BK261.out (by decide)) (fun k_ hk => ⟨hk.1.1.1, ⟨hk.1.1.2, ⟨hk.1.2, hk.2⟩⟩⟩))).2.1 (Kd.R_F (Kd.R_mono (ok' := (fun k_ => some k_ ≠ (.slice Ao34 t253.length co34 : Value).ownBlock ∧ some k_ ≠ (.slice Ao35 t256.length co35 : Value).ownBlock ∧ k_ ≠ gb225 ∧ k_ ≠ gb261)) (Kd.R_types (Kd.R_types (Kd.R_apart' (HO224.out) (Kd.R_typed HO258.out) (by decide)) BK225.out (by decide)) BK261.out (by decide)) (fun k_ hk => ⟨hk.1.1.1, ⟨hk.1.1.2, ⟨hk.1.2, hk.2⟩⟩⟩))) (Nat.le_refl _) (Kd.F_nil _ _ _))) rfl (Reps.front (show Kd.FK k27 _ _ (⟨0, 0, 1, 0, 0, 0, 0, 0, 0, 0, 0, (⟨0, 0, 0, 0, 0, 0, 0, 0, 0, 0, (⟨#[]⟩ : ByteArray), (⟨#[]⟩ : ByteArray)⟩ : S23), y222, ([] : List (S50))⟩ : S27) [.int .i64 0, .int .i64 0, .int .i64 1, .int .i64 0, .int .i64 0, .int .i64 0, .int .i64 0, .int .i64 0, .int .i64 0, .int .i64 0, .int .i64 0, .int .i64 0, .int .i64 0, .int .i64 0, .int .i64 0, .int .i64 0, .int .i64 0, .int .i64 0, .int .i64 0, .int .i64 0, .int .i64 0, .string (⟨#[]⟩ : ByteArray), .string (⟨#[]⟩ : ByteArray), .slice Ao23 y222.length co23, .slice none 0 0] from (k27_mkF _ _ (⟨0, 0, 1, 0, 0, 0, 0, 0, 0, 0, 0, (⟨0, 0, 0, 0, 0, 0, 0, 0, 0, 0, (⟨#[]⟩ : ByteArray), (⟨#[]⟩ : ByteArray)⟩ : S23), y222, ([] : List (S50))⟩ : S27) (Kd.R_reads' (Kd.R_mono (ok' := (fun k_ => some k_ ≠ (.slice Ao34 t253.length co34 : Value).ownBlock ∧ some k_ ≠ (.slice Ao35 t256.length co35 : Value).ownBlock ∧ k_ ≠ gb225 ∧ k_ ≠ gb261)) (Kd.R_types (Kd.R_types (Kd.R_apart' (HO224.out) (Kd.R_typed HO258.out) (by decide)) BK225.out (by decide)) BK261.out (by decide)) (fun k_ hk => ⟨hk.1.1.1, ⟨hk.1.1.2, ⟨hk.1.2, hk.2⟩⟩⟩))).2.1 (Kd.R_F (Kd.R_mono (ok' := (fun k_ => some k_ ≠ (.slice Ao34 t253.length co34 : Value).ownBlock ∧ some k_ ≠ (.slice Ao35 t256.length co35 : Value).ownBlock ∧ k_ ≠ gb225 ∧ k_ ≠ gb261)) (Kd.R_types (Kd.R_types (Kd.R_apart' (HO224.out) (Kd.R_typed HO258.out) (by decide)) BK225.out (by decide)) BK261.out (by decide)) (fun k_ hk => ⟨hk.1.1.1, ⟨hk.1.1.2, ⟨hk.1.2, hk.2⟩⟩⟩))) (Nat.le_refl _) (Kd.F_nil _ _ _))) rfl (Reps.none _ _) rfl) rfl)); intro v263 w38 ho39 hb hg_ hnew_; clear hg_ hnew_; (first | rw [← Ny262.out] at ho39 | (simp only [Int.reduceToNat] at ho39; rw [← Ny262.out] at ho39)); have n0_ := Aside0.mk (Kd.R_below (by (with_reducible repeat (first | apply Kd.R_alloc | apply Kd.R_drewN | apply Kd.R_drew)); exact HO255.out) hb); have n1_ := Aside0.mk (Kd.R_below (by (with_reducible repeat (first | apply Kd.R_alloc | apply Kd.R_drewN | apply Kd.R_drew)); exact HO258.out) hb); have n2_ := Aside0.mk (Kd.N_lower ho39 (below_size (qb2_ GE225.out GE261.out HB.out))); have n3_ := Aside0.mk (blk_below (qk_ BK225.out) hb); have n4_ := Aside0.mk (blk_below (qk_ BK261.out) hb); have n5_ := Aside0.mk (below_step (qb2_ GE225.out GE261.out HB.out) hb); clear HO255; clear HO258; clear BK225; clear BK261; have C224_ := Aside0.mk (Kd.C_below (by (with_reducible repeat (first | refine Kd.C_alloc ?_ _ | refine Kd.C_drewN ?_ _ | refine Kd.C_drew ?_)); exact (Kd.R_reads' HO224.out).2.2) hb); have L224 := Aside0.mk (Kd.R_reads' HO224.out).2.1; clear HB; clear HO224; have C224 := C224_; clear C224_; have HO255 := n0_; have HO258 := n1_; have HO264 := n2_; have BK225 := n3_; have BK261 := n4_; have HB := n5_; clear n0_ n1_ n2_ n3_ n4_ n5_; clear hb ho39; obtain ⟨Ao40, co40, eo40⟩ := Kd.N_slice HO264.out; subst eo40) | ((with_reducible refine gate_callee (f := 20) rfl ?_); refine goesL_ (some 34) rfl rfl Tryd.func20 (by kernel_rfl) rfl #[.slice Ao40 y262.length co40, .int .i64 10] rfl ql_ ?_; (with_reducible refine (provision_Total.calls (hG := by first | exact hG | (with_reducible exact GW.below hG (qb2_ GE225.out GE261.out HB.out)) | (with_reducible repeat (first | exact hG | apply GW.drewN | apply GW.drew))) k _ _ y262 10 t265 t266 _ ?side1 ?side2 A4.out).mono ?_); (case side1 => repeat (first | exact (Kd.N_reads' HO264.out).2.2 | (with_reducible refine Kd.C_alloc ?_ _) | (with_reducible refine Kd.C_drewN ?_ _) | (with_reducible refine Kd.C_drew ?_))); (case side2 => exact (Kd.N_reads' HO264.out).2.1); rintro e w41 ⟨rfl, hb⟩; refine ⟨_, rfl, ?_⟩; have C224_ := Aside0.mk (Kd.C_below (by (with_reducible repeat (first | refine Kd.C_alloc ?_ _ | refine Kd.C_drewN ?_ _ | refine Kd.C_drew ?_)); exact C224.out) hb); clear C224; have C224 := C224_; clear C224_; have n0_ := Aside0.mk (Kd.R_below (by (with_reducible repeat (first | apply Kd.R_alloc | apply Kd.R_drewN | apply Kd.R_drew)); exact HO255.out) hb); have n1_ := Aside0.mk (Kd.R_below (by (with_reducible repeat (first | apply Kd.R_alloc | apply Kd.R_drewN | apply Kd.R_drew)); exact HO258.out) hb); have n2_ := Aside0.mk (Kd.N_below (by (with_reducible repeat (first | apply Kd.N_alloc | apply Kd.N_drewN | apply Kd.N_drew)); exact HO264.out) hb); have n3_ := Aside0.mk (blk_below (qk_ BK225.out) hb); have n4_ := Aside0.mk (blk_below (qk_ BK261.out) hb); have n5_ := Aside0.mk (below_step (qb2_ GE225.out GE261.out HB.out) hb); clear HO255; clear HO258; clear HO264; clear BK225; clear BK261; clear HB; have HO255 := n0_; have HO258 := n1_; have HO264 := n2_; have BK225 := n3_; have BK261 := n4_; have HB := n5_; clear n0_ n1_ n2_ n3_ n4_ n5_; (try clear hb); (try clear hb2); (try clear hk); (try clear hi); obtain ⟨Z42_0, Z42_1, Z42_2, Z42_3, Z42_4, Z42_5, Z42_6, Z42_7, Z42_8, Z42_9, Z42_10, Z42_11, Z42_12, Z42_13, Z42_14, Z42_15, Z42_16, Z42_17, Z42_18, Z42_19, Z42_20, Z42_21, Z42_22, Z42_23, Z42_24, Y42_0, Y42_1, Y42_2, Y42_3, Y42_4, Y42_5, Y42_6, Y42_7, Y42_8, Y42_9, Y42_10, Y42_11, Y42_12, Y42_13, Y42_14, Y42_15, Y42_16, Y42_17, Y42_18, Y42_19, Y42_20, Y42_21, Y42_22, Y42_23, Y42_24⟩ := cz25_ BK261.out; obtain ⟨Z43_0, Z43_1, Z43_2, Z43_3, Z43_4, Z43_5, Z43_6, Z43_7, Z43_8, Z43_9, Z43_10, Z43_11, Z43_12, Z43_13, Z43_14, Z43_15, Z43_16, Z43_17, Z43_18, Z43_19, Z43_20, Z43_21, Z43_22, Z43_23, Z43_24, Y43_0, Y43_1, Y43_2, Y43_3, Y43_4, Y43_5, Y43_6, Y43_7, Y43_8, Y43_9, Y43_10, Y43_11, Y43_12, Y43_13, Y43_14, Y43_15, Y43_16, Y43_17, Y43_18, Y43_19, Y43_20, Y43_21, Y43_22, Y43_23, Y43_24⟩ := cz25_ BK225.out) | (go_at_call 9; (with_reducible refine (CS1.out _ _ _ ?sideG ?side1 ?side2).mono ?_); (case sideG => first | exact hG | (with_reducible exact GW.below hG (qb2_ GE225.out GE261.out HB.out)) | (with_reducible repeat (first | exact hG | apply GW.drewN | apply GW.drew))); (case side1 => repeat (first | exact C224.out | (with_reducible refine Kd.C_alloc ?_ _) | (with_reducible refine Kd.C_drewN ?_ _) | (with_reducible refine Kd.C_drew ?_))); (case side2 => exact L224.out); rintro e w44 ⟨rfl, hb⟩; have n0_ := Aside0.mk (Kd.R_below (by (with_reducible repeat (first | apply Kd.R_alloc | apply Kd.R_drewN | apply Kd.R_drew)); exact HO255.out) hb); have n1_ := Aside0.mk (Kd.R_below (by (with_reducible repeat (first | apply Kd.R_alloc | apply Kd.R_drewN | apply Kd.R_drew)); exact HO258.out) hb); have n2_ := Aside0.mk (Kd.N_below (by (with_reducible repeat (first | apply Kd.N_alloc | apply Kd.N_drewN | apply Kd.N_drew)); exact HO264.out) hb); have n3_ := Aside0.mk (blk_below (qk_ BK225.out) hb); have n4_ := Aside0.mk (blk_below (qk_ BK261.out) hb); have n5_ := Aside0.mk (below_step (qb2_ GE225.out GE261.out HB.out) hb); clear HO255; clear HO258; clear HO264; clear BK225; clear BK261; clear HB; have HO255 := n0_; have HO258 := n1_; have HO264 := n2_; have BK225 := n3_; have BK261 := n4_; have HB := n5_; clear n0_ n1_ n2_ n3_ n4_ n5_; (try clear hb); (try clear hb2); (try clear hk); (try clear hi)) | (go_at_call 9; (with_reducible refine (CS2.out _ ?sideG).mono ?_); (case sideG => first | exact hG | (with_reducible exact GW.below hG (qb2_ GE225.out GE261.out HB.out)) | (with_reducible repeat (first | exact hG | apply GW.drewN | apply GW.drew))); rintro e w45 ⟨rfl, hb⟩; have n0_ := Aside0.mk (Kd.R_below (by (with_reducible repeat (first | apply Kd.R_alloc | apply Kd.R_drewN | apply Kd.R_drew)); exact HO255.out) hb); have n1_ := Aside0.mk (Kd.R_below (by (with_reducible repeat (first | apply Kd.R_alloc | apply Kd.R_drewN | apply Kd.R_drew)); exact HO258.out) hb); have n2_ := Aside0.mk (Kd.N_below (by (with_reducible repeat (first | apply Kd.N_alloc | apply Kd.N_drewN | apply Kd.N_drew)); exact HO264.out) hb); have n3_ := Aside0.mk (blk_below (qk_ BK225.out) hb); have n4_ := Aside0.mk (blk_below (qk_ BK261.out) hb); have n5_ := Aside0.mk (below_step (qb2_ GE225.out GE261.out HB.out) hb); clear HO255; clear HO258; clear HO264; clear BK225; clear BK261; clear HB; have HO255 := n0_; have HO258 := n1_; have HO264 := n2_; have BK225 := n3_; have BK261 := n4_; have HB := n5_; clear n0_ n1_ n2_ n3_ n4_ n5_; (try clear hb); (try clear hb2); (try clear hk); (try clear hi)) | (go_at_call 11; (with_reducible refine (provision_Rate.calls 2 t269 _ A18.out).mono ?_); rintro e w46 ⟨rfl, hb⟩; have n0_ := Aside0.mk (Kd.R_below (by (with_reducible repeat (first | apply Kd.R_alloc | apply Kd.R_drewN | apply Kd.R_drew)); exact HO255.out) hb); have n1_ := Aside0.mk (Kd.R_below (by (with_reducible repeat (first | apply Kd.R_alloc | apply Kd.R_drewN | apply Kd.R_drew)); exact HO258.out) hb); have n2_ := Aside0.mk (Kd.N_below (by (with_reducible repeat (first | apply Kd.N_alloc | apply Kd.N_drewN | apply Kd.N_drew)); exact HO264.out) hb); have n3_ := Aside0.mk (blk_below (qk_ BK225.out) hb); have n4_ := Aside0.mk (blk_below (qk_ BK261.out) hb); have n5_ := Aside0.mk (below_step (qb2_ GE225.out GE261.out HB.out) hb); clear HO255; clear HO258; clear HO264; clear BK225; clear BK261; clear HB; have HO255 := n0_; have HO258 := n1_; have HO264 := n2_; have BK225 := n3_; have BK261 := n4_; have HB := n5_; clear n0_ n1_ n2_ n3_ n4_ n5_; (try clear hb); (try clear hb2); (try clear hk); (try clear hi)) | (go_at_call 11; (with_reducible refine (provision_Rate.calls 4 t270 _ A20.out).mono ?_); rintro e w47 ⟨rfl, hb⟩; have n0_ := Aside0.mk (Kd.R_below (by (with_reducible repeat (first | apply Kd.R_alloc | apply Kd.R_drewN | apply Kd.R_drew)); exact HO255.out) hb); have n1_ := Aside0.mk (Kd.R_below (by (with_reducible repeat (first | apply Kd.R_alloc | apply Kd.R_drewN | apply Kd.R_drew)); exact HO258.out) hb); have n2_ := Aside0.mk (Kd.N_below (by (with_reducible repeat (first | apply Kd.N_alloc | apply Kd.N_drewN | apply Kd.N_drew)); exact HO264.out) hb); have n3_ := Aside0.mk (blk_below (qk_ BK225.out) hb); have n4_ := Aside0.mk (blk_below (qk_ BK261.out) hb); have n5_ := Aside0.mk (below_step (qb2_ GE225.out GE261.out HB.out) hb); clear HO255; clear HO258; clear HO264; clear BK225; clear BK261; clear HB; have HO255 := n0_; have HO258 := n1_; have HO264 := n2_; have BK225 := n3_; have BK261 := n4_; have HB := n5_; clear n0_ n1_ n2_ n3_ n4_ n5_; (try clear hb); (try clear hb2); (try clear hk); (try clear hi)))
             go_ret
             exact ⟨qe_, qb2_ GE225.out GE261.out HB.out⟩
            ·rw [if_neg c19] at H
             have c19b0 : (t269 == 100000) = false := beq_eq_false_iff_ne.mpr c19
             have c19b1 : (t269 != 100000) = true := bne_iff_ne.mpr c19
             exact absurd H (by simp)
           ·rw [if_neg c17] at H
            have c17b0 : (t268 == 0) = false := beq_eq_false_iff_ne.mpr c17
            have c17b1 : (t268 != 0) = true := bne_iff_ne.mpr c17
            exact absurd H (by simp)
          ·rw [if_neg c15] at H
           have c15b0 : (t267 == 3) = false := beq_eq_false_iff_ne.mpr c15
           have c15b1 : (t267 != 3) = true := bne_iff_ne.mpr c15
           exact absurd H (by simp)
         ·rw [if_neg c13] at H
          have c13b0 : (t266 == 0) = false := beq_eq_false_iff_ne.mpr c13
          have c13b1 : (t266 != 0) = true := bne_iff_ne.mpr c13
          exact absurd H (by simp)
        ·rw [if_neg c12] at H
         have c12b0 : (t265 == 22) = false := beq_eq_false_iff_ne.mpr c12
         have c12b1 : (t265 != 22) = true := bne_iff_ne.mpr c12
         exact absurd H (by simp)
       ·rw [if_neg c11] at H
        have c11b0 : (t260 == 0) = false := beq_eq_false_iff_ne.mpr c11
        have c11b1 : (t260 != 0) = true := bne_iff_ne.mpr c11
        exact absurd H (by simp)
      ·rw [if_neg c10] at H
       have c10b0 : (t259 == 453) = false := beq_eq_false_iff_ne.mpr c10
       have c10b1 : (t259 != 453) = true := bne_iff_ne.mpr c10
       exact absurd H (by simp)
     ·rw [if_neg c9] at H
      have c9b0 : (t238 == 453) = false := beq_eq_false_iff_ne.mpr c9
      have c9b1 : (t238 != 453) = true := bne_iff_ne.mpr c9
      exact absurd H (by simp)
    ·rw [if_neg c8] at H
     have c8b0 : (t229 == 0) = false := beq_eq_false_iff_ne.mpr c8
     have c8b1 : (t229 != 0) = true := bne_iff_ne.mpr c8
     exact absurd H (by simp)
   ·rw [if_neg c7] at H
    have c7b0 : (t228 == 101) = false := beq_eq_false_iff_ne.mpr c7
    have c7b1 : (t228 != 101) = true := bne_iff_ne.mpr c7
    exact absurd H (by simp)
  ·rw [if_neg c6] at H
   have c6b0 : (t227 == 0) = false := beq_eq_false_iff_ne.mpr c6
   have c6b1 : (t227 != 0) = true := bne_iff_ne.mpr c6
   exact absurd H (by simp)
 ·rw [if_neg c5] at H
  have c5b0 : (t226 == 11) = false := beq_eq_false_iff_ne.mpr c5
  have c5b1 : (t226 != 11) = true := bne_iff_ne.mpr c5
  exact absurd H (by simp)
set_option maxRecDepth 100000 in
theorem corebanklaw38_Live.f_true : corebanklaw38_Live.f 40 = some true := by kernel_rfl
theorem corebanklaw38_Live.only {k : Nat} {r : Bool} (h : corebanklaw38_Live.f k = some r) : r = true := by
 have h1 := at_rounds (g := corebanklaw38_Live.f) corebanklaw38_Live.mono (Nat.le_max_left k 40) h
 have h2 := at_rounds (g := corebanklaw38_Live.f) corebanklaw38_Live.mono (Nat.le_max_right k 40) corebanklaw38_Live.f_true
 rw [h1] at h2
 exact Option.some.inj h2
theorem corebanklaw38_Live.calls (k : Nat)  (r : Bool) (w : World) (hG : GW w) (h : corebanklaw38_Live.f k  = some r) :
  Calls Tryd.prog 13 #[] w fun e w' => e = .returned (.bool r) ∧ Below w.heap.size w w' := by
 obtain rfl := corebanklaw38_Live.only h
 exact corebanklaw38_Live.calls1 k w hG h
def corebankref34_Principal.l0 : Nat → Int → Int → Int → Int → Int → Int → Int → Int → Int → Int → Int → Int → Int → Int → Int → Int → Int → Int → Int → Int → Int → Int → Int → Int → ByteArray → ByteArray → List (S54) → List (S50) → Option (Int)
 | 0, _, _, _, _, _, _, _, _, _, _, _, _, _, _, _, _, _, _, _, _, _, _, _, _, _, _, _, _ => none
 | k + 1, x1, x5, x6, x280000, x280001, x280002, x280003, x280004, x280005, x280006, x280007, x280008, x280009, x280010, x280011, x280012, x280013, x280014, x280015, x280016, x280017, x280018, x280019, x280020, x280021, x280022, x280023, x280024 => if x6 < (x280023.length : Int) then (if 0 ≤ x6 then (if ((rd_T54 x280023 x6).f1) ≤ x1 then (corebankref34_Principal.l0 k x1 (wrap64 (x5 + ((rd_T54 x280023 x6).f2))) (wrap64 (x6 + 1)) x280000 x280001 x280002 x280003 x280004 x280005 x280006 x280007 x280008 x280009 x280010 x280011 x280012 x280013 x280014 x280015 x280016 x280017 x280018 x280019 x280020 x280021 x280022 x280023 x280024) else (corebankref34_Principal.l0 k x1 x5 (wrap64 (x6 + 1)) x280000 x280001 x280002 x280003 x280004 x280005 x280006 x280007 x280008 x280009 x280010 x280011 x280012 x280013 x280014 x280015 x280016 x280017 x280018 x280019 x280020 x280021 x280022 x280023 x280024)) else (none)) else (some x5)
def corebankref34_Principal.f (k : Nat) (a0_0 a0_1 a0_2 a0_3 a0_4 a0_5 a0_6 a0_7 a0_8 a0_9 a0_10 a0_11 a0_12 a0_13 a0_14 a0_15 a0_16 a0_17 a0_18 a0_19 a0_20 : Int) (a0_21 a0_22 : ByteArray) (l0_23 : List (S54)) (l0_24 : List (S50)) (a1 : Int) : Option (Int) := corebankref34_Principal.l0 k a1 0 0 a0_0 a0_1 a0_2 a0_3 a0_4 a0_5 a0_6 a0_7 a0_8 a0_9 a0_10 a0_11 a0_12 a0_13 a0_14 a0_15 a0_16 a0_17 a0_18 a0_19 a0_20 a0_21 a0_22 l0_23 l0_24
set_option maxHeartbeats 8000000 in
set_option maxRecDepth 100000 in
theorem corebankref34_Principal.calls (k : Nat) (a0_0 a0_1 a0_2 a0_3 a0_4 a0_5 a0_6 a0_7 a0_8 a0_9 a0_10 a0_11 a0_12 a0_13 a0_14 a0_15 a0_16 a0_17 a0_18 a0_19 a0_20 : Int) (a0_21 a0_22 : ByteArray) (A0_23 : Option Addr) (c0_23 : Nat) (l0_23 : List (S54)) (A0_24 : Option Addr) (c0_24 : Nat) (l0_24 : List (S50)) (a1 r : Int) (w : World) (hr0_23 : Kd.C k54 w A0_23 l0_23.length l0_23) (hc0_23 : l0_23.length ≤ c0_23) (hr0_24 : Kd.C k50 w A0_24 l0_24.length l0_24) (hc0_24 : l0_24.length ≤ c0_24) (h : corebankref34_Principal.f k a0_0 a0_1 a0_2 a0_3 a0_4 a0_5 a0_6 a0_7 a0_8 a0_9 a0_10 a0_11 a0_12 a0_13 a0_14 a0_15 a0_16 a0_17 a0_18 a0_19 a0_20 a0_21 a0_22 l0_23 l0_24 a1 = some r) :
  Calls Tryd.prog 38 #[.agg #[.int .i64 a0_0, .int .i64 a0_1, .int .i64 a0_2, .int .i64 a0_3, .int .i64 a0_4, .int .i64 a0_5, .int .i64 a0_6, .int .i64 a0_7, .int .i64 a0_8, .int .i64 a0_9, .int .i64 a0_10, .int .i64 a0_11, .int .i64 a0_12, .int .i64 a0_13, .int .i64 a0_14, .int .i64 a0_15, .int .i64 a0_16, .int .i64 a0_17, .int .i64 a0_18, .int .i64 a0_19, .int .i64 a0_20, .string a0_21, .string a0_22, .slice A0_23 l0_23.length c0_23, .slice A0_24 l0_24.length c0_24], .int .i64 a1] w fun e w' => e = .returned (.int .i64 r) ∧ Below w.heap.size w w' := by
 have hu27 := Tryd.underlying27
 have HR0_23 := Aside0.mk hr0_23
 have HC0_23 := Aside0.mk hc0_23
 clear hr0_23 hc0_23
 have HR0_24 := Aside0.mk hr0_24
 have HC0_24 := Aside0.mk hc0_24
 clear hr0_24 hc0_24
 have HB := Aside0.mk (Below.refl w.heap.size w)
 have H : (corebankref34_Principal.l0 k a1 0 0 a0_0 a0_1 a0_2 a0_3 a0_4 a0_5 a0_6 a0_7 a0_8 a0_9 a0_10 a0_11 a0_12 a0_13 a0_14 a0_15 a0_16 a0_17 a0_18 a0_19 a0_20 a0_21 a0_22 l0_23 l0_24) = some r := h
 clear h
 have H' := Aside0.mk H
 clear H
 go_enter Tryd.func38, Tryd.ntmps38
 go_wp2_with (first | ((with_reducible refine gate_load_ (t := 27) rfl ?_); refine ld_ (t := 27) (cs := ?cs_) Tryd.underlying27 rfl rfl rfl ?hb_ rfl ?hi_ ?_; (case hb_ => (repeat (first | (with_reducible first | refine blk_drewN ?_ _ | refine blk_drew ?_ | refine blk_alloc ?_ _) | refine blk_set ?_ _ _)); (with_reducible first | exact BK279.out)); (case hi_ => kernel_rfl)) | ((with_reducible refine gate_dst (N := 2) rfl ?_); refine be_ (N := 2) (cs := #[.int .i64 a0_0, .int .i64 a0_1, .int .i64 a0_2, .int .i64 a0_3, .int .i64 a0_4, .int .i64 a0_5, .int .i64 a0_6, .int .i64 a0_7, .int .i64 a0_8, .int .i64 a0_9, .int .i64 a0_10, .int .i64 a0_11, .int .i64 a0_12, .int .i64 a0_13, .int .i64 a0_14, .int .i64 a0_15, .int .i64 a0_16, .int .i64 a0_17, .int .i64 a0_18, .int .i64 a0_19, .int .i64 a0_20, .string a0_21, .string a0_22, .slice A0_23 l0_23.length c0_23, .slice A0_24 l0_24.length c0_24]) (t := 27) ?_; intro gb279 hg w3 hbox hb; have n0_ := Aside0.mk (below_step (qb_ HB.out) hb); have n1_ := Aside0.mk (hbox); have n2_ := Aside0.mk (bz_ hg (qb_ HB.out) : w.heap.size ≤ gb279); have n3_ := n2_; clear HB; have HB := n0_; have BK279 := n1_; have GW279 := n2_; have GE279 := n3_; clear n0_ n1_ n2_ n3_; clear hb hbox hg))
 go_loopg [5, 6] k (fun kq v5 v6 w' => ∃ (x5_1 x6_1 : Int), v5 = .int .i64 x5_1 ∧ v6 = .int .i64 x6_1 ∧ Aside0 (corebankref34_Principal.l0 kq a1 x5_1 x6_1 a0_0 a0_1 a0_2 a0_3 a0_4 a0_5 a0_6 a0_7 a0_8 a0_9 a0_10 a0_11 a0_12 a0_13 a0_14 a0_15 a0_16 a0_17 a0_18 a0_19 a0_20 a0_21 a0_22 l0_23 l0_24 = some r) ∧ Aside0 (kq ≤ k) ∧ Aside0 (w'.heap[gb279]? = some (.cells #[.int .i64 a0_0, .int .i64 a0_1, .int .i64 a0_2, .int .i64 a0_3, .int .i64 a0_4, .int .i64 a0_5, .int .i64 a0_6, .int .i64 a0_7, .int .i64 a0_8, .int .i64 a0_9, .int .i64 a0_10, .int .i64 a0_11, .int .i64 a0_12, .int .i64 a0_13, .int .i64 a0_14, .int .i64 a0_15, .int .i64 a0_16, .int .i64 a0_17, .int .i64 a0_18, .int .i64 a0_19, .int .i64 a0_20, .string a0_21, .string a0_22, (.slice A0_23 l0_23.length c0_23), (.slice A0_24 l0_24.length c0_24)] 27 (0, 0))) ∧ Aside0 (Below w.heap.size w w'))
 case atStart => exact ⟨(0), (0), qs_, qs_, H', ⟨Nat.le_refl _⟩, ⟨qk_ BK279.out⟩, ⟨qb1_ GE279.out HB.out⟩⟩
 case round =>
  clear H'
  try clear p2
  try clear c3
  obtain ⟨x5_1, x6_1, rfl, rfl, HA, HK1, BK279, HB⟩ := hrel
  cases gk with
  | zero => exact absurd HA.out (by simp [corebankref34_Principal.l0])
  | succ k1 =>
   have H := HA.out
   clear HA
   simp only [corebankref34_Principal.l0] at H
   by_cases c4 : x6_1 < (l0_23.length : Int)
   ·rw [if_pos c4] at H
    have c4b0 : decide (x6_1 < (l0_23.length : Int)) = true := decide_eq_true c4
    clear c4
    by_cases c5 : 0 ≤ x6_1
    ·rw [if_pos c5] at H
     have c5b0 : decide (0 ≤ x6_1) = true := decide_eq_true c5
     clear c5
     by_cases c6 : ((rd_T54 l0_23 x6_1).f1) ≤ a1
     ·rw [if_pos c6] at H
      have c6b0 : decide (((rd_T54 l0_23 x6_1).f1) ≤ a1) = true := decide_eq_true c6
      clear c6
      have H' := Aside0.mk H
      clear H
      obtain ⟨Z7_0, Z7_1, Z7_2, Z7_3, Z7_4, Z7_5, Z7_6, Z7_7, Z7_8, Z7_9, Z7_10, Z7_11, Z7_12, Z7_13, Z7_14, Z7_15, Z7_16, Z7_17, Z7_18, Z7_19, Z7_20, Z7_21, Z7_22, Z7_23, Z7_24, Y7_0, Y7_1, Y7_2, Y7_3, Y7_4, Y7_5, Y7_6, Y7_7, Y7_8, Y7_9, Y7_10, Y7_11, Y7_12, Y7_13, Y7_14, Y7_15, Y7_16, Y7_17, Y7_18, Y7_19, Y7_20, Y7_21, Y7_22, Y7_23, Y7_24⟩ := cz25_ BK279.out
      have p280 : 0 ≤ (x6_1 : Int) := of_decide_eq_true (by first | (with_reducible assumption) | assumption)
      have q280 : x6_1 < (l0_23.length : Int) := of_decide_eq_true (by first | (with_reducible assumption) | assumption)
      obtain ⟨ad280, e280, hx280_0, hx280_1, hx280_2, hx280_3⟩ := at_T54 HR0_23.out x6_1 p280 q280
      cases e280
      replace hx280_0 := bx_ HB.out hx280_0
      replace hx280_1 := bx_ HB.out hx280_1
      replace hx280_2 := bx_ HB.out hx280_2
      replace hx280_3 := bx_ HB.out hx280_3
      replace p280 := eq_true p280
      replace q280 := eq_true q280
      have p281 : 0 ≤ (x6_1 : Int) := of_decide_eq_true (by first | (with_reducible assumption) | assumption)
      have q281 : x6_1 < (l0_23.length : Int) := of_decide_eq_true (by first | (with_reducible assumption) | assumption)
      obtain ⟨ad281, e281, hx281_0, hx281_1, hx281_2, hx281_3⟩ := at_T54 HR0_23.out x6_1 p281 q281
      obtain rfl : ad280 = ad281 := (by injection e281)
      replace hx281_0 := bx_ HB.out hx281_0
      replace hx281_1 := bx_ HB.out hx281_1
      replace hx281_2 := bx_ HB.out hx281_2
      replace hx281_3 := bx_ HB.out hx281_3
      replace p281 := eq_true p281
      replace q281 := eq_true q281
      go_wp2
      go_roundg k1
      case measure => have := HK1.out; omega
      case rel => exact ⟨(wrap64 (x5_1 + ((rd_T54 l0_23 x6_1).f2))), (wrap64 (x6_1 + 1)), qs_, qs_, H', ⟨by have := HK1.out; omega⟩, ⟨qk_ BK279.out⟩, ⟨qb1_ GE279.out HB.out⟩⟩
     ·rw [if_neg c6] at H
      have c6b0 : decide (((rd_T54 l0_23 x6_1).f1) ≤ a1) = false := decide_eq_false c6
      clear c6
      have H' := Aside0.mk H
      clear H
      obtain ⟨Z8_0, Z8_1, Z8_2, Z8_3, Z8_4, Z8_5, Z8_6, Z8_7, Z8_8, Z8_9, Z8_10, Z8_11, Z8_12, Z8_13, Z8_14, Z8_15, Z8_16, Z8_17, Z8_18, Z8_19, Z8_20, Z8_21, Z8_22, Z8_23, Z8_24, Y8_0, Y8_1, Y8_2, Y8_3, Y8_4, Y8_5, Y8_6, Y8_7, Y8_8, Y8_9, Y8_10, Y8_11, Y8_12, Y8_13, Y8_14, Y8_15, Y8_16, Y8_17, Y8_18, Y8_19, Y8_20, Y8_21, Y8_22, Y8_23, Y8_24⟩ := cz25_ BK279.out
      have p280 : 0 ≤ (x6_1 : Int) := of_decide_eq_true (by first | (with_reducible assumption) | assumption)
      have q280 : x6_1 < (l0_23.length : Int) := of_decide_eq_true (by first | (with_reducible assumption) | assumption)
      obtain ⟨ad280, e280, hx280_0, hx280_1, hx280_2, hx280_3⟩ := at_T54 HR0_23.out x6_1 p280 q280
      cases e280
      replace hx280_0 := bx_ HB.out hx280_0
      replace hx280_1 := bx_ HB.out hx280_1
      replace hx280_2 := bx_ HB.out hx280_2
      replace hx280_3 := bx_ HB.out hx280_3
      replace p280 := eq_true p280
      replace q280 := eq_true q280
      go_wp2
      go_roundg k1
      case measure => have := HK1.out; omega
      case rel => exact ⟨(x5_1), (wrap64 (x6_1 + 1)), qs_, qs_, H', ⟨by have := HK1.out; omega⟩, ⟨qk_ BK279.out⟩, ⟨qb1_ GE279.out HB.out⟩⟩
    ·rw [if_neg c5] at H
     exact absurd H (by simp)
   ·rw [if_neg c4] at H
    have c4b0 : decide (x6_1 < (l0_23.length : Int)) = false := decide_eq_false c4
    clear c4
    obtain rfl := Option.some.inj H
    obtain ⟨Z9_0, Z9_1, Z9_2, Z9_3, Z9_4, Z9_5, Z9_6, Z9_7, Z9_8, Z9_9, Z9_10, Z9_11, Z9_12, Z9_13, Z9_14, Z9_15, Z9_16, Z9_17, Z9_18, Z9_19, Z9_20, Z9_21, Z9_22, Z9_23, Z9_24, Y9_0, Y9_1, Y9_2, Y9_3, Y9_4, Y9_5, Y9_6, Y9_7, Y9_8, Y9_9, Y9_10, Y9_11, Y9_12, Y9_13, Y9_14, Y9_15, Y9_16, Y9_17, Y9_18, Y9_19, Y9_20, Y9_21, Y9_22, Y9_23, Y9_24⟩ := cz25_ BK279.out
    go_wp2
    go_ret
    exact ⟨qe_, qb1_ GE279.out HB.out⟩
def corebankref34_Outstanding.f (k : Nat) (a0_0 a0_1 a0_2 a0_3 a0_4 a0_5 a0_6 a0_7 a0_8 a0_9 a0_10 a0_11 a0_12 a0_13 a0_14 a0_15 a0_16 a0_17 a0_18 a0_19 a0_20 : Int) (a0_21 a0_22 : ByteArray) (l0_23 : List (S54)) (l0_24 : List (S50)) : Option (Int) := (corebankref34_Principal.f k a0_0 a0_1 a0_2 a0_3 a0_4 a0_5 a0_6 a0_7 a0_8 a0_9 a0_10 a0_11 a0_12 a0_13 a0_14 a0_15 a0_16 a0_17 a0_18 a0_19 a0_20 a0_21 a0_22 l0_23 l0_24 9223372036854775807).bind fun t283 => (some (wrap64 (t283 - a0_3)))
set_option maxHeartbeats 8000000 in
set_option maxRecDepth 100000 in
theorem corebankref34_Outstanding.calls (k : Nat) (a0_0 a0_1 a0_2 a0_3 a0_4 a0_5 a0_6 a0_7 a0_8 a0_9 a0_10 a0_11 a0_12 a0_13 a0_14 a0_15 a0_16 a0_17 a0_18 a0_19 a0_20 : Int) (a0_21 a0_22 : ByteArray) (A0_23 : Option Addr) (c0_23 : Nat) (l0_23 : List (S54)) (A0_24 : Option Addr) (c0_24 : Nat) (l0_24 : List (S50)) (r : Int) (w : World) (hr0_23 : Kd.C k54 w A0_23 l0_23.length l0_23) (hc0_23 : l0_23.length ≤ c0_23) (hr0_24 : Kd.C k50 w A0_24 l0_24.length l0_24) (hc0_24 : l0_24.length ≤ c0_24) (h : corebankref34_Outstanding.f k a0_0 a0_1 a0_2 a0_3 a0_4 a0_5 a0_6 a0_7 a0_8 a0_9 a0_10 a0_11 a0_12 a0_13 a0_14 a0_15 a0_16 a0_17 a0_18 a0_19 a0_20 a0_21 a0_22 l0_23 l0_24 = some r) :
  Calls Tryd.prog 24 #[.agg #[.int .i64 a0_0, .int .i64 a0_1, .int .i64 a0_2, .int .i64 a0_3, .int .i64 a0_4, .int .i64 a0_5, .int .i64 a0_6, .int .i64 a0_7, .int .i64 a0_8, .int .i64 a0_9, .int .i64 a0_10, .int .i64 a0_11, .int .i64 a0_12, .int .i64 a0_13, .int .i64 a0_14, .int .i64 a0_15, .int .i64 a0_16, .int .i64 a0_17, .int .i64 a0_18, .int .i64 a0_19, .int .i64 a0_20, .string a0_21, .string a0_22, .slice A0_23 l0_23.length c0_23, .slice A0_24 l0_24.length c0_24]] w fun e w' => e = .returned (.int .i64 r) ∧ Below w.heap.size w w' := by
 have hu27 := Tryd.underlying27
 have HR0_23 := Aside0.mk hr0_23
 have HC0_23 := Aside0.mk hc0_23
 clear hr0_23 hc0_23
 have HR0_24 := Aside0.mk hr0_24
 have HC0_24 := Aside0.mk hc0_24
 clear hr0_24 hc0_24
 have HB := Aside0.mk (Below.refl w.heap.size w)
 have H : ((corebankref34_Principal.f k a0_0 a0_1 a0_2 a0_3 a0_4 a0_5 a0_6 a0_7 a0_8 a0_9 a0_10 a0_11 a0_12 a0_13 a0_14 a0_15 a0_16 a0_17 a0_18 a0_19 a0_20 a0_21 a0_22 l0_23 l0_24 9223372036854775807).bind fun t283 => (some (wrap64 (t283 - a0_3)))) = some r := h
 clear h
 replace H := Option.bind_eq_some_iff.mp H
 obtain ⟨t283, A20, H⟩ := H
 replace H : (some (wrap64 (t283 - a0_3))) = some r := H
 have A2 := Aside0.mk A20
 clear A20
 obtain rfl := Option.some.inj H
 go_enter Tryd.func24, Tryd.ntmps24
 try go_wp2_with (first | ((with_reducible refine gate_load_ (t := 27) rfl ?_); refine ld_ (t := 27) (cs := ?cs_) Tryd.underlying27 rfl rfl rfl ?hb_ rfl ?hi_ ?_; (case hb_ => (repeat (first | (with_reducible first | refine blk_drewN ?_ _ | refine blk_drew ?_ | refine blk_alloc ?_ _) | refine blk_set ?_ _ _)); (with_reducible first | exact BK282.out)); (case hi_ => kernel_rfl)) | ((with_reducible refine gate_dst (N := 1) rfl ?_); refine be_ (N := 1) (cs := #[.int .i64 a0_0, .int .i64 a0_1, .int .i64 a0_2, .int .i64 a0_3, .int .i64 a0_4, .int .i64 a0_5, .int .i64 a0_6, .int .i64 a0_7, .int .i64 a0_8, .int .i64 a0_9, .int .i64 a0_10, .int .i64 a0_11, .int .i64 a0_12, .int .i64 a0_13, .int .i64 a0_14, .int .i64 a0_15, .int .i64 a0_16, .int .i64 a0_17, .int .i64 a0_18, .int .i64 a0_19, .int .i64 a0_20, .string a0_21, .string a0_22, .slice A0_23 l0_23.length c0_23, .slice A0_24 l0_24.length c0_24]) (t := 27) ?_; intro gb282 hg w3 hbox hb; have n0_ := Aside0.mk (below_step (qb_ HB.out) hb); have n1_ := Aside0.mk (hbox); have n2_ := Aside0.mk (bz_ hg (qb_ HB.out) : w.heap.size ≤ gb282); have n3_ := n2_; clear HB; have HB := n0_; have BK282 := n1_; have GW282 := n2_; have GE282 := n3_; clear n0_ n1_ n2_ n3_; clear hb hbox hg))
 have n0_ := Aside0.mk (blk_drew BK282.out)
 have n1_ := Aside0.mk (below_drew1 HB.out)
 clear BK282
 clear HB
 have BK282 := n0_
 have HB := n1_
 clear n0_ n1_
 refine start_ (n := 6) (S := cS25_ gb282 (.int .i64 a0_0) (.int .i64 a0_1) (.int .i64 a0_2) (.int .i64 a0_3) (.int .i64 a0_4) (.int .i64 a0_5) (.int .i64 a0_6) (.int .i64 a0_7) (.int .i64 a0_8) (.int .i64 a0_9) (.int .i64 a0_10) (.int .i64 a0_11) (.int .i64 a0_12) (.int .i64 a0_13) (.int .i64 a0_14) (.int .i64 a0_15) (.int .i64 a0_16) (.int .i64 a0_17) (.int .i64 a0_18) (.int .i64 a0_19) (.int .i64 a0_20) (.string a0_21) (.string a0_22) (.slice A0_23 l0_23.length c0_23) (.slice A0_24 l0_24.length c0_24)) (ds := []) (nb_ 6 0) (by kernel_rfl) rfl rfl (cc25_ BK282.out) (fun hHeld => ?_)
 generalize w3.drew = w4 at BK282 HB hHeld ⊢
 refine pure_ (i := 2) (N := some 5) (v := ?_) (a' := ?_) (nb_ 6 4) rfl rfl (by kernel_rfl) (fun _ _ _ h => h) (Or.inl ⟨by rfl, ?_⟩) ?_ ?_
 rotate_left
 ·intro w'
  go_simp
  with_reducible rfl
 rotate_left
 ·simp only [Act.put, List.setIfInBounds_toArray, List.set_cons_zero, List.set_cons_succ, i64_w, i32_w]
  rfl
 refine take_ (i := 0) (N := some 3) (v := ?_) (a' := ?_) (nb_ 6 5) rfl rfl (by kernel_rfl) (fun _ _ _ h => h) (Or.inl ⟨by rfl, ?_⟩) hHeld ?_ ?_
 rotate_left
 ·rintro w' hs_
  first
  | (refine ldx_ (b := ?b_) ?ho_ ?hx_ (ldS_ hs_); (case ho_ => rfl); (case hx_ => rfl))
  | (obtain ⟨s0, s1, s2, s3, s4, s5, s6, s7, s8, s9, s10, s11, s12, s13, s14, s15, s16, s17, s18, s19, s20, s21, s22, s23, s24⟩ := hs_; go_simp; with_reducible rfl)
 rotate_left
 ·simp only [Act.put, List.setIfInBounds_toArray, List.set_cons_zero, List.set_cons_succ, i64_w, i32_w]
  rfl
 refine take_ (i := 3) (N := some 6) (v := ?_) (a' := ?_) (nb_ 6 13) rfl rfl (by kernel_rfl) (fun _ _ _ h => h) (Or.inl ⟨by rfl, ?_⟩) hHeld ?_ ?_
 rotate_left
 ·rintro w' hs_
  first
  | (refine ldx_ (b := ?b_) ?ho_ ?hx_ (ldS_ hs_); (case ho_ => rfl); (case hx_ => rfl))
  | (obtain ⟨s0, s1, s2, s3, s4, s5, s6, s7, s8, s9, s10, s11, s12, s13, s14, s15, s16, s17, s18, s19, s20, s21, s22, s23, s24⟩ := hs_; go_simp; with_reducible rfl)
 rotate_left
 ·simp only [Act.put, List.setIfInBounds_toArray, List.set_cons_zero, List.set_cons_succ, i64_w, i32_w]
  rfl
 refine one_ (i := 1) (N := some 4) (nb_ 6 15) rfl rfl (by kernel_rfl) (by decide) (fun K hK => ?_)
 refine goes_ Tryd.func38 (by kernel_rfl) rfl #[.agg #[.int .i64 a0_0, .int .i64 a0_1, .int .i64 a0_2, .int .i64 a0_3, .int .i64 a0_4, .int .i64 a0_5, .int .i64 a0_6, .int .i64 a0_7, .int .i64 a0_8, .int .i64 a0_9, .int .i64 a0_10, .int .i64 a0_11, .int .i64 a0_12, .int .i64 a0_13, .int .i64 a0_14, .int .i64 a0_15, .int .i64 a0_16, .int .i64 a0_17, .int .i64 a0_18, .int .i64 a0_19, .int .i64 a0_20, .string a0_21, .string a0_22, .slice A0_23 l0_23.length c0_23, .slice A0_24 l0_24.length c0_24], .int .i64 9223372036854775807] (by rfl) rfl rfl ql_ ?_
 with_reducible refine (corebankref34_Principal.calls k a0_0 a0_1 a0_2 a0_3 a0_4 a0_5 a0_6 a0_7 a0_8 a0_9 a0_10 a0_11 a0_12 a0_13 a0_14 a0_15 a0_16 a0_17 a0_18 a0_19 a0_20 a0_21 a0_22 _ _ l0_23 _ _ l0_24 9223372036854775807 t283 _ ?side1 ?side2 ?side3 ?side4 A2.out).mono ?_
 (case side1 => repeat (first | exact (Kd.C_below HR0_23.out HB.out) | (with_reducible refine Kd.C_alloc ?_ _) | (with_reducible refine Kd.C_drewN ?_ _) | (with_reducible refine Kd.C_drew ?_)))
 (case side2 => exact HC0_23.out)
 (case side3 => repeat (first | exact (Kd.C_below HR0_24.out HB.out) | (with_reducible refine Kd.C_alloc ?_ _) | (with_reducible refine Kd.C_drewN ?_ _) | (with_reducible refine Kd.C_drew ?_)))
 (case side4 => exact HC0_24.out)
 rintro e w5 ⟨rfl, hb⟩
 refine ⟨_, rfl, ?_⟩
 have n0_ := Aside0.mk (blk_below (qk_ BK282.out) hb)
 have n1_ := Aside0.mk (below_step (qb1_ GE282.out HB.out) hb)
 clear BK282
 clear HB
 have BK282 := n0_
 have HB := n1_
 clear n0_ n1_
 (try clear hb)
 (try clear hb2)
 (try clear hk)
 (try clear hi)
 refine hK.out _ _ (cc25_ BK282.out) (fun hHeld => ?_)
 clear hK K
 refine no_ ?_
 refine pure_ (i := 4) (N := some 7) (v := ?_) (a' := ?_) (nb_ 6 31) rfl rfl (by kernel_rfl) (fun _ _ _ h => h) (Or.inl ⟨by rfl, ?_⟩) ?_ ?_
 rotate_left
 ·intro w'
  go_simp
  with_reducible rfl
 rotate_left
 ·simp only [Act.put, List.setIfInBounds_toArray, List.set_cons_zero, List.set_cons_succ, i64_w, i32_w]
  rfl
 refine pure_ (i := 5) (N := some 2) (v := ?_) (a' := ?_) (nb_ 6 63) rfl rfl (by kernel_rfl) (fun _ _ _ h => h) (Or.inl ⟨by rfl, ?_⟩) ?_ ?_
 rotate_left
 ·intro w'
  go_simp
  with_reducible rfl
 rotate_left
 ·simp only [Act.put, List.setIfInBounds_toArray, List.set_cons_zero, List.set_cons_succ, i64_w, i32_w]
  rfl
 refine done_ (by kernel_rfl) ?_
 try go_wp2
 go_ret
 exact ⟨qe_, qb1_ GE282.out HB.out⟩
def corebankref02_Good.f (a0 : Int) : Option (Bool) := if a0 ≥ (-1000000000000) then (some (decide (a0 ≤ 1000000000000))) else (some false)
set_option maxHeartbeats 8000000 in
set_option maxRecDepth 100000 in
theorem corebankref02_Good.calls (a0 : Int) (r : Bool) (w : World) (h : corebankref02_Good.f a0 = some r) :
  Calls Tryd.prog 23 #[.int .i64 a0] w fun e w' => e = .returned (.bool r) ∧ Drawn0 w w' := by
 have H : (if a0 ≥ (-1000000000000) then (some (decide (a0 ≤ 1000000000000))) else (some false)) = some r := h
 clear h
 by_cases c2 : a0 ≥ (-1000000000000)
 ·rw [if_pos c2] at H
  have c2b0 : decide ((-1000000000000) ≤ a0) = true := decide_eq_true c2
  clear c2
  obtain rfl := Option.some.inj H
  go_enter Tryd.func23, Tryd.ntmps23
  go_wp2
  go_ret
  exact ⟨by first | rfl | (simp; done) | (simp [*]; done), by repeat (first | exact Drawn0.refl _ | apply Drawn0.step)⟩
 ·rw [if_neg c2] at H
  have c2b0 : decide ((-1000000000000) ≤ a0) = false := decide_eq_false c2
  clear c2
  obtain rfl := Option.some.inj H
  go_enter Tryd.func23, Tryd.ntmps23
  go_wp2
  go_ret
  exact ⟨by first | rfl | (simp; done) | (simp [*]; done), by repeat (first | exact Drawn0.refl _ | apply Drawn0.step)⟩
def corebankref02_Valid.f (a0 : Int) : Option (Bool) := if a0 ≥ 1 then (some (decide (a0 ≤ 6))) else (some false)
set_option maxHeartbeats 8000000 in
set_option maxRecDepth 100000 in
theorem corebankref02_Valid.calls (a0 : Int) (r : Bool) (w : World) (h : corebankref02_Valid.f a0 = some r) :
  Calls Tryd.prog 58 #[.int .i64 a0] w fun e w' => e = .returned (.bool r) ∧ Drawn0 w w' := by
 have H : (if a0 ≥ 1 then (some (decide (a0 ≤ 6))) else (some false)) = some r := h
 clear h
 by_cases c2 : a0 ≥ 1
 ·rw [if_pos c2] at H
  have c2b0 : decide (1 ≤ a0) = true := decide_eq_true c2
  clear c2
  obtain rfl := Option.some.inj H
  go_enter Tryd.func58, Tryd.ntmps58
  go_wp2
  go_ret
  exact ⟨by first | rfl | (simp; done) | (simp [*]; done), by repeat (first | exact Drawn0.refl _ | apply Drawn0.step)⟩
 ·rw [if_neg c2] at H
  have c2b0 : decide (1 ≤ a0) = false := decide_eq_false c2
  clear c2
  obtain rfl := Option.some.inj H
  go_enter Tryd.func58, Tryd.ntmps58
  go_wp2
  go_ret
  exact ⟨by first | rfl | (simp; done) | (simp [*]; done), by repeat (first | exact Drawn0.refl _ | apply Drawn0.step)⟩
def corebankref01_SplitP.f (a0_0 a0_1 : Int) : Option (Bool × Int × Int) := if a0_0 ≥ 0 then (some (false, IntKind.u64.wrap (a0_0), a0_1)) else (if (IntKind.u64.wrap ((Go.bits .xor .u64 IntKind.u64.max a0_1) + 1)) = 0 then (some (true, IntKind.u64.wrap ((Go.bits .xor .u64 IntKind.u64.max (IntKind.u64.wrap (a0_0))) + 1), IntKind.u64.wrap ((Go.bits .xor .u64 IntKind.u64.max a0_1) + 1))) else (some (true, Go.bits .xor .u64 IntKind.u64.max (IntKind.u64.wrap (a0_0)), IntKind.u64.wrap ((Go.bits .xor .u64 IntKind.u64.max a0_1) + 1))))
set_option maxHeartbeats 8000000 in
set_option maxRecDepth 100000 in
theorem corebankref01_SplitP.calls (a0_0 a0_1 : Int) (r1 : Bool) (r2 r3 : Int) (w : World) (h : corebankref01_SplitP.f a0_0 a0_1 = some (r1, r2, r3)) :
  Calls Tryd.prog 70 #[.agg #[.int .i64 a0_0, .int .u64 a0_1]] w fun e w' => e = .returned (.tuple #[.bool r1, .agg #[.int .u64 r2, .int .u64 r3]]) ∧ Below w.heap.size w w' := by
 have hu63 := Tryd.underlying63
 have hu96 := Tryd.underlying96
 have hsgn : IntKind.u64.signed = false := rfl
 have HB := Aside0.mk (Below.refl w.heap.size w)
 have H : (if a0_0 ≥ 0 then (some (false, IntKind.u64.wrap (a0_0), a0_1)) else (if (IntKind.u64.wrap ((Go.bits .xor .u64 IntKind.u64.max a0_1) + 1)) = 0 then (some (true, IntKind.u64.wrap ((Go.bits .xor .u64 IntKind.u64.max (IntKind.u64.wrap (a0_0))) + 1), IntKind.u64.wrap ((Go.bits .xor .u64 IntKind.u64.max a0_1) + 1))) else (some (true, Go.bits .xor .u64 IntKind.u64.max (IntKind.u64.wrap (a0_0)), IntKind.u64.wrap ((Go.bits .xor .u64 IntKind.u64.max a0_1) + 1))))) = some (r1, r2, r3) := h
 clear h
 by_cases c2 : a0_0 ≥ 0
 ·rw [if_pos c2] at H
  have c2b0 : decide (0 ≤ a0_0) = true := decide_eq_true c2
  clear c2
  simp only [Option.some.injEq, Prod.mk.injEq] at H
  obtain ⟨rfl, rfl, rfl⟩ := H
  go_enter Tryd.func70, Tryd.ntmps70
  go_wp2_with (first | ((with_reducible refine gate_dst (N := 1) rfl ?_); refine be_ (N := 1) (cs := #[.int .i64 a0_0, .int .u64 a0_1]) (t := 63) ?_; intro gb284 hg w3 hbox hb; have n0_ := Aside0.mk (below_step (qb_ HB.out) hb); have n1_ := Aside0.mk (hbox); have n2_ := Aside0.mk (bz_ hg (qb_ HB.out) : w.heap.size ≤ gb284); have n3_ := n2_; clear HB; have HB := n0_; have BK284 := n1_; have GW284 := n2_; have GE284 := n3_; clear n0_ n1_ n2_ n3_; clear hb hbox hg) | ((with_reducible refine gate_dst (N := 3) rfl ?_); refine be_ (N := 3) (cs := #[.int .u64 0, .int .u64 0]) (t := 96) ?_; intro gb285 hg w4 hbox hb; have n0_ := Aside0.mk (blk_below (qk_ BK284.out) hb); have n1_ := Aside0.mk (below_step (qb1_ GE284.out HB.out) hb); have n2_ := Aside0.mk (hbox); have n3_ := Aside0.mk (bz_ hg (qb1_ GE284.out HB.out) : w.heap.size ≤ gb285); have n4_ := n3_; have n5_ := Aside0.mk (nl_ hg (qk_ BK284.out) : gb284 ≠ gb285); have n6_ := Aside0.mk (ng_ hg (qk_ BK284.out) : gb285 ≠ gb284); clear BK284; clear HB; have BK284 := n0_; have HB := n1_; have BK285 := n2_; have GW285 := n3_; have GE285 := n4_; have NB284_285 := n5_; have NB285_284 := n6_; clear n0_ n1_ n2_ n3_ n4_ n5_ n6_; clear hb hbox hg; have hnb5 := NB284_285.out; have hnc5 := NB285_284.out; obtain ⟨Z6_0, Z6_1, Y6_0, Y6_1⟩ := cz2_ BK284.out; obtain ⟨Z7_0, Z7_1, Y7_0, Y7_1⟩ := cz2_ BK285.out))
  repeat (go_quiet (first | ((with_reducible refine gate_dst (N := 1) rfl ?_); refine be_ (N := 1) (cs := #[.int .i64 a0_0, .int .u64 a0_1]) (t := 63) ?_; intro gb284 hg w3 hbox hb; have n0_ := Aside0.mk (below_step (qb_ HB.out) hb); have n1_ := Aside0.mk (hbox); have n2_ := Aside0.mk (bz_ hg (qb_ HB.out) : w.heap.size ≤ gb284); have n3_ := n2_; clear HB; have HB := n0_; have BK284 := n1_; have GW284 := n2_; have GE284 := n3_; clear n0_ n1_ n2_ n3_; clear hb hbox hg) | ((with_reducible refine gate_dst (N := 3) rfl ?_); refine be_ (N := 3) (cs := #[.int .u64 0, .int .u64 0]) (t := 96) ?_; intro gb285 hg w4 hbox hb; have n0_ := Aside0.mk (blk_below (qk_ BK284.out) hb); have n1_ := Aside0.mk (below_step (qb1_ GE284.out HB.out) hb); have n2_ := Aside0.mk (hbox); have n3_ := Aside0.mk (bz_ hg (qb1_ GE284.out HB.out) : w.heap.size ≤ gb285); have n4_ := n3_; have n5_ := Aside0.mk (nl_ hg (qk_ BK284.out) : gb284 ≠ gb285); have n6_ := Aside0.mk (ng_ hg (qk_ BK284.out) : gb285 ≠ gb284); clear BK284; clear HB; have BK284 := n0_; have HB := n1_; have BK285 := n2_; have GW285 := n3_; have GE285 := n4_; have NB284_285 := n5_; have NB285_284 := n6_; clear n0_ n1_ n2_ n3_ n4_ n5_ n6_; clear hb hbox hg; have hnb5 := NB284_285.out; have hnc5 := NB285_284.out; obtain ⟨Z6_0, Z6_1, Y6_0, Y6_1⟩ := cz2_ BK284.out; obtain ⟨Z7_0, Z7_1, Y7_0, Y7_1⟩ := cz2_ BK285.out)); try go_wp2_with (first | ((with_reducible refine gate_dst (N := 1) rfl ?_); refine be_ (N := 1) (cs := #[.int .i64 a0_0, .int .u64 a0_1]) (t := 63) ?_; intro gb284 hg w3 hbox hb; have n0_ := Aside0.mk (below_step (qb_ HB.out) hb); have n1_ := Aside0.mk (hbox); have n2_ := Aside0.mk (bz_ hg (qb_ HB.out) : w.heap.size ≤ gb284); have n3_ := n2_; clear HB; have HB := n0_; have BK284 := n1_; have GW284 := n2_; have GE284 := n3_; clear n0_ n1_ n2_ n3_; clear hb hbox hg) | ((with_reducible refine gate_dst (N := 3) rfl ?_); refine be_ (N := 3) (cs := #[.int .u64 0, .int .u64 0]) (t := 96) ?_; intro gb285 hg w4 hbox hb; have n0_ := Aside0.mk (blk_below (qk_ BK284.out) hb); have n1_ := Aside0.mk (below_step (qb1_ GE284.out HB.out) hb); have n2_ := Aside0.mk (hbox); have n3_ := Aside0.mk (bz_ hg (qb1_ GE284.out HB.out) : w.heap.size ≤ gb285); have n4_ := n3_; have n5_ := Aside0.mk (nl_ hg (qk_ BK284.out) : gb284 ≠ gb285); have n6_ := Aside0.mk (ng_ hg (qk_ BK284.out) : gb285 ≠ gb284); clear BK284; clear HB; have BK284 := n0_; have HB := n1_; have BK285 := n2_; have GW285 := n3_; have GE285 := n4_; have NB284_285 := n5_; have NB285_284 := n6_; clear n0_ n1_ n2_ n3_ n4_ n5_ n6_; clear hb hbox hg; have hnb5 := NB284_285.out; have hnc5 := NB285_284.out; obtain ⟨Z6_0, Z6_1, Y6_0, Y6_1⟩ := cz2_ BK284.out; obtain ⟨Z7_0, Z7_1, Y7_0, Y7_1⟩ := cz2_ BK285.out)))
  refine bodyPost_ret (results_tc rfl _ _ gb285 96 #[.int .u64 (IntKind.u64.wrap (a0_0)), .int .u64 a0_1] (0, 0) _ rfl (qpp_ #[.int .u64 (IntKind.u64.wrap (a0_0)), .int .u64 0] 1 #[.int .u64 0, .int .u64 0] 0 BK285.out) Tryd.underlying96 rfl (by kernel_rfl)) rfl ?_
  exact ⟨qe_, qb2_ GE284.out GE285.out HB.out⟩
 ·rw [if_neg c2] at H
  have c2b0 : decide (0 ≤ a0_0) = false := decide_eq_false c2
  clear c2
  by_cases c8 : (IntKind.u64.wrap ((Go.bits .xor .u64 IntKind.u64.max a0_1) + 1)) = 0
  ·rw [if_pos c8] at H
   have c8b0 : ((IntKind.u64.wrap ((Go.bits .xor .u64 IntKind.u64.max a0_1) + 1)) == 0) = true := beq_iff_eq.mpr c8
   have c8b1 : ((IntKind.u64.wrap ((Go.bits .xor .u64 IntKind.u64.max a0_1) + 1)) != 0) = false := bne_eq_false_iff_eq.mpr c8
   clear c8
   simp only [Option.some.injEq, Prod.mk.injEq] at H
   obtain ⟨rfl, rfl, rfl⟩ := H
   go_enter Tryd.func70, Tryd.ntmps70
   go_wp2_with (first | ((with_reducible refine gate_dst (N := 1) rfl ?_); refine be_ (N := 1) (cs := #[.int .i64 a0_0, .int .u64 a0_1]) (t := 63) ?_; intro gb284 hg w9 hbox hb; have n0_ := Aside0.mk (below_step (qb_ HB.out) hb); have n1_ := Aside0.mk (hbox); have n2_ := Aside0.mk (bz_ hg (qb_ HB.out) : w.heap.size ≤ gb284); have n3_ := n2_; clear HB; have HB := n0_; have BK284 := n1_; have GW284 := n2_; have GE284 := n3_; clear n0_ n1_ n2_ n3_; clear hb hbox hg) | ((with_reducible refine gate_dst (N := 3) rfl ?_); refine be_ (N := 3) (cs := #[.int .u64 0, .int .u64 0]) (t := 96) ?_; intro gb285 hg w10 hbox hb; have n0_ := Aside0.mk (blk_below (qk_ BK284.out) hb); have n1_ := Aside0.mk (below_step (qb1_ GE284.out HB.out) hb); have n2_ := Aside0.mk (hbox); have n3_ := Aside0.mk (bz_ hg (qb1_ GE284.out HB.out) : w.heap.size ≤ gb285); have n4_ := n3_; have n5_ := Aside0.mk (nl_ hg (qk_ BK284.out) : gb284 ≠ gb285); have n6_ := Aside0.mk (ng_ hg (qk_ BK284.out) : gb285 ≠ gb284); clear BK284; clear HB; have BK284 := n0_; have HB := n1_; have BK285 := n2_; have GW285 := n3_; have GE285 := n4_; have NB284_285 := n5_; have NB285_284 := n6_; clear n0_ n1_ n2_ n3_ n4_ n5_ n6_; clear hb hbox hg; have hnb11 := NB284_285.out; have hnc11 := NB285_284.out; obtain ⟨Z12_0, Z12_1, Y12_0, Y12_1⟩ := cz2_ BK284.out; obtain ⟨Z13_0, Z13_1, Y13_0, Y13_1⟩ := cz2_ BK285.out))
   repeat (go_quiet (first | ((with_reducible refine gate_dst (N := 1) rfl ?_); refine be_ (N := 1) (cs := #[.int .i64 a0_0, .int .u64 a0_1]) (t := 63) ?_; intro gb284 hg w9 hbox hb; have n0_ := Aside0.mk (below_step (qb_ HB.out) hb); have n1_ := Aside0.mk (hbox); have n2_ := Aside0.mk (bz_ hg (qb_ HB.out) : w.heap.size ≤ gb284); have n3_ := n2_; clear HB; have HB := n0_; have BK284 := n1_; have GW284 := n2_; have GE284 := n3_; clear n0_ n1_ n2_ n3_; clear hb hbox hg) | ((with_reducible refine gate_dst (N := 3) rfl ?_); refine be_ (N := 3) (cs := #[.int .u64 0, .int .u64 0]) (t := 96) ?_; intro gb285 hg w10 hbox hb; have n0_ := Aside0.mk (blk_below (qk_ BK284.out) hb); have n1_ := Aside0.mk (below_step (qb1_ GE284.out HB.out) hb); have n2_ := Aside0.mk (hbox); have n3_ := Aside0.mk (bz_ hg (qb1_ GE284.out HB.out) : w.heap.size ≤ gb285); have n4_ := n3_; have n5_ := Aside0.mk (nl_ hg (qk_ BK284.out) : gb284 ≠ gb285); have n6_ := Aside0.mk (ng_ hg (qk_ BK284.out) : gb285 ≠ gb284); clear BK284; clear HB; have BK284 := n0_; have HB := n1_; have BK285 := n2_; have GW285 := n3_; have GE285 := n4_; have NB284_285 := n5_; have NB285_284 := n6_; clear n0_ n1_ n2_ n3_ n4_ n5_ n6_; clear hb hbox hg; have hnb11 := NB284_285.out; have hnc11 := NB285_284.out; obtain ⟨Z12_0, Z12_1, Y12_0, Y12_1⟩ := cz2_ BK284.out; obtain ⟨Z13_0, Z13_1, Y13_0, Y13_1⟩ := cz2_ BK285.out)); try go_wp2_with (first | ((with_reducible refine gate_dst (N := 1) rfl ?_); refine be_ (N := 1) (cs := #[.int .i64 a0_0, .int .u64 a0_1]) (t := 63) ?_; intro gb284 hg w9 hbox hb; have n0_ := Aside0.mk (below_step (qb_ HB.out) hb); have n1_ := Aside0.mk (hbox); have n2_ := Aside0.mk (bz_ hg (qb_ HB.out) : w.heap.size ≤ gb284); have n3_ := n2_; clear HB; have HB := n0_; have BK284 := n1_; have GW284 := n2_; have GE284 := n3_; clear n0_ n1_ n2_ n3_; clear hb hbox hg) | ((with_reducible refine gate_dst (N := 3) rfl ?_); refine be_ (N := 3) (cs := #[.int .u64 0, .int .u64 0]) (t := 96) ?_; intro gb285 hg w10 hbox hb; have n0_ := Aside0.mk (blk_below (qk_ BK284.out) hb); have n1_ := Aside0.mk (below_step (qb1_ GE284.out HB.out) hb); have n2_ := Aside0.mk (hbox); have n3_ := Aside0.mk (bz_ hg (qb1_ GE284.out HB.out) : w.heap.size ≤ gb285); have n4_ := n3_; have n5_ := Aside0.mk (nl_ hg (qk_ BK284.out) : gb284 ≠ gb285); have n6_ := Aside0.mk (ng_ hg (qk_ BK284.out) : gb285 ≠ gb284); clear BK284; clear HB; have BK284 := n0_; have HB := n1_; have BK285 := n2_; have GW285 := n3_; have GE285 := n4_; have NB284_285 := n5_; have NB285_284 := n6_; clear n0_ n1_ n2_ n3_ n4_ n5_ n6_; clear hb hbox hg; have hnb11 := NB284_285.out; have hnc11 := NB285_284.out; obtain ⟨Z12_0, Z12_1, Y12_0, Y12_1⟩ := cz2_ BK284.out; obtain ⟨Z13_0, Z13_1, Y13_0, Y13_1⟩ := cz2_ BK285.out)))
   refine bodyPost_ret (results_tc rfl _ _ gb285 96 #[.int .u64 (IntKind.u64.wrap ((Go.bits .xor .u64 IntKind.u64.max (IntKind.u64.wrap (a0_0))) + 1)), .int .u64 (IntKind.u64.wrap ((Go.bits .xor .u64 IntKind.u64.max a0_1) + 1))] (0, 0) _ rfl (qpp_ #[.int .u64 (IntKind.u64.wrap ((Go.bits .xor .u64 IntKind.u64.max (IntKind.u64.wrap (a0_0))) + 1)), .int .u64 0] 1 #[.int .u64 0, .int .u64 0] 0 BK285.out) Tryd.underlying96 rfl (by kernel_rfl)) rfl ?_
   exact ⟨qe_, qb2_ GE284.out GE285.out HB.out⟩
  ·rw [if_neg c8] at H
   have c8b0 : ((IntKind.u64.wrap ((Go.bits .xor .u64 IntKind.u64.max a0_1) + 1)) == 0) = false := beq_eq_false_iff_ne.mpr c8
   have c8b1 : ((IntKind.u64.wrap ((Go.bits .xor .u64 IntKind.u64.max a0_1) + 1)) != 0) = true := bne_iff_ne.mpr c8
   simp only [Option.some.injEq, Prod.mk.injEq] at H
   obtain ⟨rfl, rfl, rfl⟩ := H
   go_enter Tryd.func70, Tryd.ntmps70
   go_wp2_with (first | ((with_reducible refine gate_dst (N := 1) rfl ?_); refine be_ (N := 1) (cs := #[.int .i64 a0_0, .int .u64 a0_1]) (t := 63) ?_; intro gb284 hg w14 hbox hb; have n0_ := Aside0.mk (below_step (qb_ HB.out) hb); have n1_ := Aside0.mk (hbox); have n2_ := Aside0.mk (bz_ hg (qb_ HB.out) : w.heap.size ≤ gb284); have n3_ := n2_; clear HB; have HB := n0_; have BK284 := n1_; have GW284 := n2_; have GE284 := n3_; clear n0_ n1_ n2_ n3_; clear hb hbox hg) | ((with_reducible refine gate_dst (N := 3) rfl ?_); refine be_ (N := 3) (cs := #[.int .u64 0, .int .u64 0]) (t := 96) ?_; intro gb285 hg w15 hbox hb; have n0_ := Aside0.mk (blk_below (qk_ BK284.out) hb); have n1_ := Aside0.mk (below_step (qb1_ GE284.out HB.out) hb); have n2_ := Aside0.mk (hbox); have n3_ := Aside0.mk (bz_ hg (qb1_ GE284.out HB.out) : w.heap.size ≤ gb285); have n4_ := n3_; have n5_ := Aside0.mk (nl_ hg (qk_ BK284.out) : gb284 ≠ gb285); have n6_ := Aside0.mk (ng_ hg (qk_ BK284.out) : gb285 ≠ gb284); clear BK284; clear HB; have BK284 := n0_; have HB := n1_; have BK285 := n2_; have GW285 := n3_; have GE285 := n4_; have NB284_285 := n5_; have NB285_284 := n6_; clear n0_ n1_ n2_ n3_ n4_ n5_ n6_; clear hb hbox hg; have hnb16 := NB284_285.out; have hnc16 := NB285_284.out; obtain ⟨Z17_0, Z17_1, Y17_0, Y17_1⟩ := cz2_ BK284.out; obtain ⟨Z18_0, Z18_1, Y18_0, Y18_1⟩ := cz2_ BK285.out))
   repeat (go_quiet (first | ((with_reducible refine gate_dst (N := 1) rfl ?_); refine be_ (N := 1) (cs := #[.int .i64 a0_0, .int .u64 a0_1]) (t := 63) ?_; intro gb284 hg w14 hbox hb; have n0_ := Aside0.mk (below_step (qb_ HB.out) hb); have n1_ := Aside0.mk (hbox); have n2_ := Aside0.mk (bz_ hg (qb_ HB.out) : w.heap.size ≤ gb284); have n3_ := n2_; clear HB; have HB := n0_; have BK284 := n1_; have GW284 := n2_; have GE284 := n3_; clear n0_ n1_ n2_ n3_; clear hb hbox hg) | ((with_reducible refine gate_dst (N := 3) rfl ?_); refine be_ (N := 3) (cs := #[.int .u64 0, .int .u64 0]) (t := 96) ?_; intro gb285 hg w15 hbox hb; have n0_ := Aside0.mk (blk_below (qk_ BK284.out) hb); have n1_ := Aside0.mk (below_step (qb1_ GE284.out HB.out) hb); have n2_ := Aside0.mk (hbox); have n3_ := Aside0.mk (bz_ hg (qb1_ GE284.out HB.out) : w.heap.size ≤ gb285); have n4_ := n3_; have n5_ := Aside0.mk (nl_ hg (qk_ BK284.out) : gb284 ≠ gb285); have n6_ := Aside0.mk (ng_ hg (qk_ BK284.out) : gb285 ≠ gb284); clear BK284; clear HB; have BK284 := n0_; have HB := n1_; have BK285 := n2_; have GW285 := n3_; have GE285 := n4_; have NB284_285 := n5_; have NB285_284 := n6_; clear n0_ n1_ n2_ n3_ n4_ n5_ n6_; clear hb hbox hg; have hnb16 := NB284_285.out; have hnc16 := NB285_284.out; obtain ⟨Z17_0, Z17_1, Y17_0, Y17_1⟩ := cz2_ BK284.out; obtain ⟨Z18_0, Z18_1, Y18_0, Y18_1⟩ := cz2_ BK285.out)); try go_wp2_with (first | ((with_reducible refine gate_dst (N := 1) rfl ?_); refine be_ (N := 1) (cs := #[.int .i64 a0_0, .int .u64 a0_1]) (t := 63) ?_; intro gb284 hg w14 hbox hb; have n0_ := Aside0.mk (below_step (qb_ HB.out) hb); have n1_ := Aside0.mk (hbox); have n2_ := Aside0.mk (bz_ hg (qb_ HB.out) : w.heap.size ≤ gb284); have n3_ := n2_; clear HB; have HB := n0_; have BK284 := n1_; have GW284 := n2_; have GE284 := n3_; clear n0_ n1_ n2_ n3_; clear hb hbox hg) | ((with_reducible refine gate_dst (N := 3) rfl ?_); refine be_ (N := 3) (cs := #[.int .u64 0, .int .u64 0]) (t := 96) ?_; intro gb285 hg w15 hbox hb; have n0_ := Aside0.mk (blk_below (qk_ BK284.out) hb); have n1_ := Aside0.mk (below_step (qb1_ GE284.out HB.out) hb); have n2_ := Aside0.mk (hbox); have n3_ := Aside0.mk (bz_ hg (qb1_ GE284.out HB.out) : w.heap.size ≤ gb285); have n4_ := n3_; have n5_ := Aside0.mk (nl_ hg (qk_ BK284.out) : gb284 ≠ gb285); have n6_ := Aside0.mk (ng_ hg (qk_ BK284.out) : gb285 ≠ gb284); clear BK284; clear HB; have BK284 := n0_; have HB := n1_; have BK285 := n2_; have GW285 := n3_; have GE285 := n4_; have NB284_285 := n5_; have NB285_284 := n6_; clear n0_ n1_ n2_ n3_ n4_ n5_ n6_; clear hb hbox hg; have hnb16 := NB284_285.out; have hnc16 := NB285_284.out; obtain ⟨Z17_0, Z17_1, Y17_0, Y17_1⟩ := cz2_ BK284.out; obtain ⟨Z18_0, Z18_1, Y18_0, Y18_1⟩ := cz2_ BK285.out)))
   refine bodyPost_ret (results_tc rfl _ _ gb285 96 #[.int .u64 (Go.bits .xor .u64 IntKind.u64.max (IntKind.u64.wrap (a0_0))), .int .u64 (IntKind.u64.wrap ((Go.bits .xor .u64 IntKind.u64.max a0_1) + 1))] (0, 0) _ rfl (qpp_ #[.int .u64 (Go.bits .xor .u64 IntKind.u64.max (IntKind.u64.wrap (a0_0))), .int .u64 0] 1 #[.int .u64 0, .int .u64 0] 0 BK285.out) Tryd.underlying96 rfl (by kernel_rfl)) rfl ?_
   exact ⟨qe_, qb2_ GE284.out GE285.out HB.out⟩
def corebankref01_Split.f (a0_0 a0_1 : Int) : Option (Bool × Int × Int) :=
 if isW a0_0 a0_1 then some (decide (a0_0 < 0), (if a0_0 < 0 then -(wv a0_0 a0_1) else wv a0_0 a0_1) / 18446744073709551616, (if a0_0 < 0 then -(wv a0_0 a0_1) else wv a0_0 a0_1) % 18446744073709551616) else none
theorem corebankref01_Split.eq {a b : Int} {r : Bool × Int × Int} (h : corebankref01_Split.f a b = some r) : corebankref01_SplitP.f a b = some r := by
 unfold corebankref01_Split.f at h
 split at h
 ·rename_i c
  obtain ⟨⟨c0, c1⟩, c2, c3⟩ := c
  injection h with h
  subst h
  unfold corebankref01_SplitP.f
  have hw : IntKind.u64.wrap a = if a < 0 then a + 18446744073709551616 else a := by rw [IntKind.wrap_u64]; split <;> omega
  rw [hw, xorMax b c2 c3]
  by_cases hn : a < 0
  ·rw [if_neg (by omega), if_pos hn, if_pos hn, xorMax _ (by omega) (by omega)]
   simp only [IntKind.wrap_u64, hn, decide_true]
   unfold wv
   split
   ·congr 3 <;> omega
   ·congr 3 <;> omega
  ·rw [if_pos (by omega), if_neg hn, if_neg hn]
   simp only [hn, decide_false]
   unfold wv
   congr 3 <;> omega
 ·cases h
theorem corebankref01_Split.calls (a0_0 a0_1 : Int) (r1 : Bool) (r2 r3 : Int) (w : World) (h : corebankref01_Split.f a0_0 a0_1 = some (r1, r2, r3)) :
  Calls Tryd.prog 70 #[.agg #[.int .i64 a0_0, .int .u64 a0_1]] w fun e w' => e = .returned (.tuple #[.bool r1, .agg #[.int .u64 r2, .int .u64 r3]]) ∧ Below w.heap.size w w' := by
 have h := corebankref01_Split.eq h
 exact corebankref01_SplitP.calls a0_0 a0_1 r1 r2 r3 w h
/-- The sum of two magnitudes modulo 2^128, and whether it is less than that. -/
def corebankref01_plus.f (a0_0 a0_1 a1_0 a1_1 : Int) : Option (Int × Int × Bool) :=
 if (inU a0_0 ∧ inU a0_1) ∧ inU a1_0 ∧ inU a1_1 then
  some ((wv a0_0 a0_1 + wv a1_0 a1_1) / 18446744073709551616 % 18446744073709551616, (wv a0_0 a0_1 + wv a1_0 a1_1) % 18446744073709551616, decide (wv a0_0 a0_1 + wv a1_0 a1_1 < 340282366920938463463374607431768211456)) else none
set_option maxHeartbeats 4000000 in
set_option maxRecDepth 100000 in
theorem corebankref01_plus.calls (a0_0 a0_1 a1_0 a1_1 r1 r2 : Int) (r3 : Bool) (w : World) (h : corebankref01_plus.f a0_0 a0_1 a1_0 a1_1 = some (r1, r2, r3)) :
  Calls Tryd.prog 72 #[.agg #[.int .u64 a0_0, .int .u64 a0_1], .agg #[.int .u64 a1_0, .int .u64 a1_1]] w fun e w' => e = .returned (.tuple #[.agg #[.int .u64 r1, .int .u64 r2], .bool r3]) ∧ Below w.heap.size w w' := by
 unfold corebankref01_plus.f at h
 split at h
 ·rename_i c
  obtain ⟨⟨⟨p0, p1⟩, q0, q1⟩, ⟨s0, s1⟩, t0, t1⟩ := c
  injection h with h
  injection h with h1 h
  injection h with h2 h3
  have H1 := Aside0.mk h1
  have H2 := Aside0.mk h2
  have H3 := Aside0.mk h3
  clear h1 h2 h3
  go_enter Tryd.func72, Tryd.ntmps72
  go_wp2
  all_goals
   refine bodyPost_ret (v := .tuple #[.agg #[.int .u64 r1, .int .u64 r2], .bool r3]) ?_ rfl ⟨rfl, (((Below.refl _ _).alloc (Nat.le_refl _) _).alloc (by simp) _).alloc (by simp; omega) _⟩
   simp [results, Tryd.results72, go_sem]
   have h1 := H1.out
   have h2 := H2.out
   have h3 := H3.out
   clear H1 H2 H3
   go_light
   subst h1 h2 h3
   simp only [IntKind.wrap_u64] at *
   unfold wv
   refine ⟨⟨by omega, by omega⟩, ?_⟩
   first
    | (apply decide_eq_decide.mpr; omega)
    | (apply decide_eq_false; omega)
    | (apply decide_eq_true; omega)
    | omega
 ·cases h
def corebankref01_shiftedP.f (a0_0 a0_1 : Int) : Option (Int × Int × Bool) := (corebankref01_plus.f a0_0 a0_1 a0_0 a0_1).bind fun bt288 => (some (bt288.1, bt288.2.1, bt288.2.2))
set_option maxHeartbeats 8000000 in
set_option maxRecDepth 100000 in
theorem corebankref01_shiftedP.calls (a0_0 a0_1 r1 r2 : Int) (r3 : Bool) (w : World) (h : corebankref01_shiftedP.f a0_0 a0_1 = some (r1, r2, r3)) :
  Calls Tryd.prog 78 #[.agg #[.int .u64 a0_0, .int .u64 a0_1]] w fun e w' => e = .returned (.tuple #[.agg #[.int .u64 r1, .int .u64 r2], .bool r3]) ∧ Below w.heap.size w w' := by
 have hu96 := Tryd.underlying96
 have HB := Aside0.mk (Below.refl w.heap.size w)
 have H : ((corebankref01_plus.f a0_0 a0_1 a0_0 a0_1).bind fun bt288 => (some (bt288.1, bt288.2.1, bt288.2.2))) = some (r1, r2, r3) := h
 clear h
 replace H := Option.bind_eq_some_iff.mp H
 obtain ⟨⟨t288, t289, t290⟩, A20, H⟩ := H
 replace H : (some (t288, t289, t290)) = some (r1, r2, r3) := H
 have A2 := Aside0.mk A20
 clear A20
 simp only [Option.some.injEq, Prod.mk.injEq] at H
 obtain ⟨rfl, rfl, rfl⟩ := H
 go_enter Tryd.func78, Tryd.ntmps78
 go_wp2_with (first | ((with_reducible refine gate_dst (N := 1) rfl ?_); refine be_ (N := 1) (cs := #[.int .u64 a0_0, .int .u64 a0_1]) (t := 96) ?_; intro gb286 hg w3 hbox hb; have n0_ := Aside0.mk (below_step (qb_ HB.out) hb); have n1_ := Aside0.mk (hbox); have n2_ := Aside0.mk (bz_ hg (qb_ HB.out) : w.heap.size ≤ gb286); have n3_ := n2_; clear HB; have HB := n0_; have BK286 := n1_; have GW286 := n2_; have GE286 := n3_; clear n0_ n1_ n2_ n3_; clear hb hbox hg) | ((with_reducible refine gate_dst (N := 2) rfl ?_); refine be_ (N := 2) (cs := #[.int .u64 0, .int .u64 0]) (t := 96) ?_; intro gb287 hg w4 hbox hb; have n0_ := Aside0.mk (blk_below (qk_ BK286.out) hb); have n1_ := Aside0.mk (below_step (qb1_ GE286.out HB.out) hb); have n2_ := Aside0.mk (hbox); have n3_ := Aside0.mk (bz_ hg (qb1_ GE286.out HB.out) : w.heap.size ≤ gb287); have n4_ := n3_; have n5_ := Aside0.mk (nl_ hg (qk_ BK286.out) : gb286 ≠ gb287); have n6_ := Aside0.mk (ng_ hg (qk_ BK286.out) : gb287 ≠ gb286); clear BK286; clear HB; have BK286 := n0_; have HB := n1_; have BK287 := n2_; have GW287 := n3_; have GE287 := n4_; have NB286_287 := n5_; have NB287_286 := n6_; clear n0_ n1_ n2_ n3_ n4_ n5_ n6_; clear hb hbox hg; have hnb5 := NB286_287.out; have hnc5 := NB287_286.out; obtain ⟨Z6_0, Z6_1, Y6_0, Y6_1⟩ := cz2_ BK286.out) | ((with_reducible refine gate_callee (f := 72) rfl ?_); refine goesL_ (some 6) rfl rfl Tryd.func72 (by kernel_rfl) rfl #[.agg #[.int .u64 a0_0, .int .u64 a0_1], .agg #[.int .u64 a0_0, .int .u64 a0_1]] rfl ql_ ?_; (with_reducible refine (corebankref01_plus.calls a0_0 a0_1 a0_0 a0_1 t288 t289 t290 _ A2.out).mono ?_); rintro e w7 ⟨rfl, hb⟩; refine ⟨_, rfl, ?_⟩; have n0_ := Aside0.mk (blk_below (qk_ BK286.out) hb); have n1_ := Aside0.mk (blk_below (qk_ BK287.out) hb); have n2_ := Aside0.mk (below_step (qb2_ GE286.out GE287.out HB.out) hb); clear BK286; clear BK287; clear HB; have BK286 := n0_; have BK287 := n1_; have HB := n2_; clear n0_ n1_ n2_; (try clear hb); (try clear hb2); (try clear hk); (try clear hi); obtain ⟨Z8_0, Z8_1, Y8_0, Y8_1⟩ := cz2_ BK287.out))
 refine bodyPost_ret (results_ct rfl _ _ gb287 96 #[.int .u64 t288, .int .u64 t289] (0, 0) _ rfl (qpp_ #[.int .u64 t288, .int .u64 0] 1 #[.int .u64 0, .int .u64 0] 0 BK287.out) Tryd.underlying96 rfl (by kernel_rfl)) rfl ?_
 exact ⟨qe_, qb2_ GE286.out GE287.out HB.out⟩
def corebankref01_shifted.f (a0_0 a0_1 : Int) : Option (Int × Int × Bool) :=
 if inU a0_0 ∧ inU a0_1 then some (2 * wv a0_0 a0_1 / 18446744073709551616 % 18446744073709551616, 2 * wv a0_0 a0_1 % 18446744073709551616, decide (2 * wv a0_0 a0_1 < 340282366920938463463374607431768211456)) else none
theorem corebankref01_shifted.eq {a b : Int} {r : Int × Int × Bool} (h : corebankref01_shifted.f a b = some r) : corebankref01_shiftedP.f a b = some r := by
 unfold corebankref01_shifted.f at h
 split at h
 ·rename_i q
  injection h with h
  subst h
  unfold corebankref01_shiftedP.f corebankref01_plus.f
  rw [if_pos ⟨q, q⟩, show wv a b + wv a b = 2 * wv a b by omega]
  rfl
 ·cases h
theorem corebankref01_shifted.calls (a0_0 a0_1 r1 r2 : Int) (r3 : Bool) (w : World) (h : corebankref01_shifted.f a0_0 a0_1 = some (r1, r2, r3)) :
  Calls Tryd.prog 78 #[.agg #[.int .u64 a0_0, .int .u64 a0_1]] w fun e w' => e = .returned (.tuple #[.agg #[.int .u64 r1, .int .u64 r2], .bool r3]) ∧ Below w.heap.size w w' := by
 have h := corebankref01_shifted.eq h
 exact corebankref01_shiftedP.calls a0_0 a0_1 r1 r2 r3 w h
theorem eqA54 (d : Nat) (w : World) (x0 y0 : Int) (x1 y1 : Int) (x2 y2 : Int) (x3 y3 : Int) :
    (Op.equalIn (d + 2) 54 (.agg #[.int .i64 x0, .int .i64 x1, .int .i64 x2, .int .i64 x3]) (.agg #[.int .i64 y0, .int .i64 y1, .int .i64 y2, .int .i64 y3])).run Tryd.prog w = .ok (x0 == y0 && (x1 == y1 && (x2 == y2 && (x3 == y3)))) w := by
  refine eqA_of Tryd.underlying54 (by kernel_rfl) ?_
  refine eqf_cons (by rfl) (by go_simp; rfl) (by go_simp; rfl) (by go_simp) ?_
  refine eqf_cons (by rfl) (by go_simp; rfl) (by go_simp; rfl) (by go_simp) ?_
  refine eqf_cons (by rfl) (by go_simp; rfl) (by go_simp; rfl) (by go_simp) ?_
  exact eqf_last (by rfl) (by go_simp; rfl) (by go_simp; rfl) (by go_simp)
end Go.Proofs.YtjkjiibhdpcpkaaDoor.PS
end
