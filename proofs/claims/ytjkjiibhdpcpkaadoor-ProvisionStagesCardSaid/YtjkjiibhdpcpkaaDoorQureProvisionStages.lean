import Derived.Deep.Slices
import Derived.Lib.SmallJoins
import Derived.Test.YtjkjiibhdpcpkaaDoorQSx27
namespace Go.Proofs.YtjkjiibhdpcpkaaDoor.PureProvisionStages
open Go.RowKit Go.Proofs.YtjkjiibhdpcpkaaDoor.PS Go.Proofs.YtjkjiibhdpcpkaaDoorW.PrintWords Go.Proofs.YtjkjiibhdpcpkaaDoorW.PrintLast
set_option linter.unusedVariables false
set_option linter.unusedSimpArgs false
open Go.ChangeShapes Go.WideShapes Go.ChangeAt Go.Joins
/-- What data of type t reads as, read as a value of the kind d. -/
def Rd {α : Type} (d : Kd α) (t : TypeId) (G : α → Prop) : Prop :=
  ∀ {H : Type} (enc : TypeId × Value → H) (w : World) (base : Nat) (spare : Nat → Bool) (held : Bool) (fuel : Nat) (cs : List Value) (x : DataW H × List MemPlace),
    DataW.trod enc Tryd.prog w base spare held fuel t cs = some x → ∃ y, d.K w y cs ∧ G y
theorem Rd_int {t : TypeId} {k : IntKind} (ht : Tryd.prog.underlying t = some (.int k)) : Rd (Kd.int k) t (fun n => (Lit.int k n).wf = true) := by
  intro H enc w base spare held fuel cs x h
  obtain ⟨n, rfl, _, hw⟩ := DataW.trod_int ht h
  exact ⟨n, rfl, hw⟩
theorem Rd_string {t : TypeId} (ht : Tryd.prog.underlying t = some .string) : Rd Kd.string t (fun s => s.size ≤ maxLen) := by
  intro H enc w base spare held fuel cs x h
  obtain ⟨s, rfl, _, hw⟩ := DataW.trod_string ht h
  exact ⟨s, rfl, hw⟩
/-- The fields from a place on. -/
def RdF {α : Type} (d : Kd α) (fs : List Field) (off tot : Nat) (G : α → Prop) : Prop :=
  ∀ {H : Type} (enc : TypeId × Value → H) (w : World) (base : Nat) (spare : Nat → Bool) (held : Bool) (cs : List Value), cs.length = tot →
    (∀ f ∈ fs, ∃ n y, DataW.trod enc Tryd.prog w base spare held n f.type ((cs.drop f.offset).take (Tryd.prog.cellsOf f.type)) = some y) → ∃ y, d.K w y (cs.drop off) ∧ G y
theorem RdF_one {α : Type} {d : Kd α} {G : α → Prop} {f : Field} {tot : Nat} (h : Rd d f.type G) (hc : f.offset + Tryd.prog.cellsOf f.type = tot) : RdF d [f] f.offset tot G := by
  intro H enc w base spare held cs hl hf
  obtain ⟨n, y, hy⟩ := hf f List.mem_cons_self
  rw [List.take_of_length_le (by rw [List.length_drop]; omega)] at hy
  exact h enc w base spare held n _ _ hy
theorem RdF_cons {α β : Type} {d : Kd α} {d' : Kd β} {G : α → Prop} {G' : β → Prop} {f : Field} {fs : List Field} {off tot : Nat} (h : Rd d f.type G) (h' : RdF d' fs off tot G') (hc : f.offset + Tryd.prog.cellsOf f.type = off) :
    RdF (Kd.pair d d') (f :: fs) f.offset tot (fun p => G p.1 ∧ G' p.2) := by
  intro H enc w base spare held cs hl hf
  obtain ⟨n, y, hy⟩ := hf f List.mem_cons_self
  obtain ⟨a, ha, ga⟩ := h enc w base spare held n _ _ hy
  obtain ⟨b, hb, gb⟩ := h' enc w base spare held cs hl (fun g hg => hf g (List.mem_cons_of_mem _ hg))
  refine ⟨(a, b), ⟨_, _, ?_, ha, hb⟩, ga, gb⟩
  rw [← hc, ← List.drop_drop, List.take_append_drop]
theorem Rd_struct {α β : Type} {d : Kd β} {G : β → Prop} {t : TypeId} {fs : Array Field} {f : α → β} (g : β → α) (he : Tryd.prog.underlying t = some (.struct fs)) (h : RdF d fs.toList 0 (Tryd.prog.cellsOf t) G) (hg : ∀ y, f (g y) = y) :
    Rd (Kd.iso d f) t (fun x => G (f x)) := by
  intro H enc w base spare held fuel cs x hx
  obtain ⟨xs, n, _, rfl, hl, hlen, hf⟩ := DataW.trod_struct he hx
  obtain ⟨y, hy, gy⟩ := h enc w base spare held cs hl (fun q hq => by
    obtain ⟨i, hi, rfl⟩ := List.getElem_of_mem hq
    have hi' : i < fs.size := by simpa using hi
    have e := hf i fs[i] (by simp [hi'])
    rw [List.getElem?_eq_getElem (by omega)] at e
    exact ⟨n, _, by simpa using e⟩)
  rw [List.drop_zero] at hy
  refine ⟨g y, ?_, ?_⟩
  · show d.K w (f (g y)) cs
    rw [hg]; exact hy
  · show G (f (g y))
    rw [hg]; exact gy
theorem Rd_slice {α : Type} [Inhabited α] {d : Kd α} {G : α → Prop} {t e : TypeId} (ht : Tryd.prog.underlying t = some (.slice e)) (hc : Tryd.prog.cellsOf e = d.sz) (h : Rd d e G) :
    Rd (Kd.slice e d) t (fun xs => ∀ x ∈ xs, G x) := by
  intro H enc w base spare held fuel cs x hx
  rcases Go.Deep.open_slice ht hx with ⟨rfl, _⟩ | ⟨a, len, cap, m, n, D, Pl, rfl, hb, hl, hm, hmm, _, hel⟩
  · exact ⟨[], ⟨none, 0, rfl, Nat.le_refl _, rfl, by simp, fun h => absurd h (Nat.lt_irrefl 0)⟩, by simp⟩
  · have hlm : len ≤ m := by rw [hmm]; split <;> omega
    have each : ∀ i, i < len → ∃ y : α, ∃ c, w.cells? base (a.add (i * Tryd.prog.cellsOf e)) (Tryd.prog.cellsOf e) = some c ∧ d.K w y c ∧ G y := by
      intro i hi
      obtain ⟨c, h1, h2⟩ := hel i (by omega)
      obtain ⟨y, hy, gy⟩ := h enc w base spare held n c _ h2
      exact ⟨y, c, h1, hy, gy⟩
    obtain ⟨q, hq⟩ := Go.Deep.choose_lt each
    have hlen : ((List.range len).map q).length = len := by simp
    refine ⟨(List.range len).map q, ⟨some a, cap, by rw [hlen], by rw [hlen]; exact hl, ?_⟩, ?_⟩
    · rw [hlen]
      refine ⟨hlen, by unfold maxLen at hm; omega, fun _ => ⟨a, rfl, ?_⟩⟩
      intro j p hj
      have hj' : j < len := by
        have := (List.getElem?_eq_some_iff.1 hj).1
        simpa using this
      have hp : q j = p := by
        rw [List.getElem?_map, List.getElem?_range hj'] at hj
        simpa using hj
      subst hp
      obtain ⟨c, h1, h2, _⟩ := hq j hj'
      obtain ⟨_, hcl, hcell⟩ := World.cells?_some h1
      refine ⟨c, by rw [hcl, hc], h2, ?_⟩
      intro i u hi
      have hil : i < c.length := (List.getElem?_eq_some_iff.1 hi).1
      have := hcell i (by omega)
      rw [Go.Deep.add_add] at this
      rw [hc] at this
      rw [this, hi]
    · intro x hx
      obtain ⟨j, hj, rfl⟩ := List.mem_map.1 hx
      exact (hq j (List.mem_range.1 hj)).choose_spec.2.2
def W23 (x : S23) : Prop := ((Lit.int .i64 x.f0).wf = true) ∧ ((Lit.int .i64 x.f1).wf = true) ∧ ((Lit.int .i64 x.f2).wf = true) ∧ ((Lit.int .i64 x.f3).wf = true) ∧ ((Lit.int .i64 x.f4).wf = true) ∧ ((Lit.int .i64 x.f5).wf = true) ∧ ((Lit.int .i64 x.f6).wf = true) ∧ ((Lit.int .i64 x.f7).wf = true) ∧ ((Lit.int .i64 x.f8).wf = true) ∧ ((Lit.int .i64 x.f9).wf = true) ∧ (x.f10.size ≤ maxLen) ∧ (x.f11.size ≤ maxLen)
instance : Inhabited S23 := ⟨⟨default, default, default, default, default, default, default, default, default, default, default, default⟩⟩
set_option maxRecDepth 100000 in
theorem rd23 : Rd k23 23 W23 := Rd_struct (fun y => ⟨y.1, y.2.1, y.2.2.1, y.2.2.2.1, y.2.2.2.2.1, y.2.2.2.2.2.1, y.2.2.2.2.2.2.1, y.2.2.2.2.2.2.2.1, y.2.2.2.2.2.2.2.2.1, y.2.2.2.2.2.2.2.2.2.1, y.2.2.2.2.2.2.2.2.2.2.1, y.2.2.2.2.2.2.2.2.2.2.2⟩) Tryd.underlying23 (RdF_cons (Rd_int Tryd.underlying3) (RdF_cons (Rd_int Tryd.underlying3) (RdF_cons (Rd_int Tryd.underlying3) (RdF_cons (Rd_int Tryd.underlying3) (RdF_cons (Rd_int Tryd.underlying3) (RdF_cons (Rd_int Tryd.underlying3) (RdF_cons (Rd_int Tryd.underlying3) (RdF_cons (Rd_int Tryd.underlying3) (RdF_cons (Rd_int Tryd.underlying3) (RdF_cons (Rd_int Tryd.underlying3) (RdF_cons (Rd_string Tryd.underlying9) (RdF_one (Rd_string Tryd.underlying9) (by kernel_rfl)) (by kernel_rfl)) (by kernel_rfl)) (by kernel_rfl)) (by kernel_rfl)) (by kernel_rfl)) (by kernel_rfl)) (by kernel_rfl)) (by kernel_rfl)) (by kernel_rfl)) (by kernel_rfl)) (by kernel_rfl)) (fun _ => rfl)
def W54 (x : S54) : Prop := ((Lit.int .i64 x.f0).wf = true) ∧ ((Lit.int .i64 x.f1).wf = true) ∧ ((Lit.int .i64 x.f2).wf = true) ∧ ((Lit.int .i64 x.f3).wf = true)
instance : Inhabited S54 := ⟨⟨default, default, default, default⟩⟩
set_option maxRecDepth 100000 in
theorem rd54 : Rd k54 54 W54 := Rd_struct (fun y => ⟨y.1, y.2.1, y.2.2.1, y.2.2.2⟩) Tryd.underlying54 (RdF_cons (Rd_int Tryd.underlying3) (RdF_cons (Rd_int Tryd.underlying3) (RdF_cons (Rd_int Tryd.underlying3) (RdF_one (Rd_int Tryd.underlying3) (by kernel_rfl)) (by kernel_rfl)) (by kernel_rfl)) (by kernel_rfl)) (fun _ => rfl)
def W50 (x : S50) : Prop := ((Lit.int .i64 x.f0).wf = true) ∧ ((Lit.int .i64 x.f1).wf = true) ∧ (W23 x.f2)
instance : Inhabited S50 := ⟨⟨default, default, default⟩⟩
set_option maxRecDepth 100000 in
theorem rd50 : Rd k50 50 W50 := Rd_struct (fun y => ⟨y.1, y.2.1, y.2.2⟩) Tryd.underlying50 (RdF_cons (Rd_int Tryd.underlying3) (RdF_cons (Rd_int Tryd.underlying3) (RdF_one rd23 (by kernel_rfl)) (by kernel_rfl)) (by kernel_rfl)) (fun _ => rfl)
def W27 (x : S27) : Prop := ((Lit.int .i64 x.f0).wf = true) ∧ ((Lit.int .i64 x.f1).wf = true) ∧ ((Lit.int .i64 x.f2).wf = true) ∧ ((Lit.int .i64 x.f3).wf = true) ∧ ((Lit.int .i64 x.f4).wf = true) ∧ ((Lit.int .i64 x.f5).wf = true) ∧ ((Lit.int .i64 x.f6).wf = true) ∧ ((Lit.int .i64 x.f7).wf = true) ∧ ((Lit.int .i64 x.f8).wf = true) ∧ ((Lit.int .i64 x.f9).wf = true) ∧ ((Lit.int .i64 x.f10).wf = true) ∧ (W23 x.f11) ∧ (∀ y ∈ x.f12, W54 y) ∧ (∀ y ∈ x.f13, W50 y)
instance : Inhabited S27 := ⟨⟨default, default, default, default, default, default, default, default, default, default, default, default, default, default⟩⟩
set_option maxRecDepth 100000 in
theorem rd27 : Rd k27 27 W27 := Rd_struct (fun y => ⟨y.1, y.2.1, y.2.2.1, y.2.2.2.1, y.2.2.2.2.1, y.2.2.2.2.2.1, y.2.2.2.2.2.2.1, y.2.2.2.2.2.2.2.1, y.2.2.2.2.2.2.2.2.1, y.2.2.2.2.2.2.2.2.2.1, y.2.2.2.2.2.2.2.2.2.2.1, y.2.2.2.2.2.2.2.2.2.2.2.1, y.2.2.2.2.2.2.2.2.2.2.2.2.1, y.2.2.2.2.2.2.2.2.2.2.2.2.2⟩) Tryd.underlying27 (RdF_cons (Rd_int Tryd.underlying3) (RdF_cons (Rd_int Tryd.underlying3) (RdF_cons (Rd_int Tryd.underlying3) (RdF_cons (Rd_int Tryd.underlying3) (RdF_cons (Rd_int Tryd.underlying3) (RdF_cons (Rd_int Tryd.underlying3) (RdF_cons (Rd_int Tryd.underlying3) (RdF_cons (Rd_int Tryd.underlying3) (RdF_cons (Rd_int Tryd.underlying3) (RdF_cons (Rd_int Tryd.underlying3) (RdF_cons (Rd_int Tryd.underlying3) (RdF_cons rd23 (RdF_cons (Rd_slice Tryd.underlying24 (by kernel_rfl) rd54) (RdF_one (Rd_slice Tryd.underlying25 (by kernel_rfl) rd50) (by kernel_rfl)) (by kernel_rfl)) (by kernel_rfl)) (by kernel_rfl)) (by kernel_rfl)) (by kernel_rfl)) (by kernel_rfl)) (by kernel_rfl)) (by kernel_rfl)) (by kernel_rfl)) (by kernel_rfl)) (by kernel_rfl)) (by kernel_rfl)) (by kernel_rfl)) (fun _ => rfl)
set_option maxRecDepth 100000 in
theorem open27 {H : Type} {enc : TypeId × Value → H} {W : World} {base : Nat} {spare : Nat → Bool} {held : Bool} {r : Reach} {b0 : Nat} {v : Value} {d : DataW H} {p : List MemPlace} (hv : Value.okWide Tryd.prog W r b0 27 v) (h : DataW.Trod enc Tryd.prog W base spare held 27 v d p) :
    ∃ (y : S27) (A23 : Option Addr) (c23 : Nat) (A24 : Option Addr) (c24 : Nat), v = .agg #[.int .i64 y.f0, .int .i64 y.f1, .int .i64 y.f2, .int .i64 y.f3, .int .i64 y.f4, .int .i64 y.f5, .int .i64 y.f6, .int .i64 y.f7, .int .i64 y.f8, .int .i64 y.f9, .int .i64 y.f10, .int .i64 y.f11.f0, .int .i64 y.f11.f1, .int .i64 y.f11.f2, .int .i64 y.f11.f3, .int .i64 y.f11.f4, .int .i64 y.f11.f5, .int .i64 y.f11.f6, .int .i64 y.f11.f7, .int .i64 y.f11.f8, .int .i64 y.f11.f9, .string y.f11.f10, .string y.f11.f11, .slice A23 y.f12.length c23, .slice A24 y.f13.length c24] ∧ y.f12.length ≤ c23 ∧ Kd.C k54 W A23 y.f12.length y.f12 ∧ y.f13.length ≤ c24 ∧ Kd.C k50 W A24 y.f13.length y.f13 ∧ W27 y := by
  obtain ⟨cs, rfl, hsz⟩ := okWide_struct Tryd.underlying27 hv
  obtain ⟨fu, hf⟩ := h
  obtain ⟨y, hk, gy⟩ := rd27 enc W base _ _ fu _ _ hf
  obtain ⟨A23, c23, A24, c24, hcs, q0, q1, q2, q3⟩ := k27_open hk
  refine ⟨y, A23, c23, A24, c24, ?_, q0, q1, q2, q3, gy⟩
  obtain ⟨l⟩ := cs
  have e : l = _ := hcs
  subst e
  rfl
theorem drop54 (l : List S54) (i : Nat) (h : i < l.length) : l.drop i = rd_T54 l (i : Int) :: l.drop (i + 1) := by
  rw [List.drop_eq_getElem_cons h]
  congr 1
  unfold rd_T54
  simp [List.getD_eq_getElem?_getD, h]
/-- The days of arrears. -/
def daysS (pp pi day : Int) : List S54 → Int → Int → Int
  | [], _, _ => 0
  | d :: t, p, i => if d.f1 ≤ day ∧ (pp < wrap64 (p + d.f2) ∨ pi < wrap64 (i + d.f3)) then wrap64 (day - d.f1) else daysS pp pi day t (wrap64 (p + d.f2)) (wrap64 (i + d.f3))
theorem daysS_yes (pp pi day p i : Int) (d : S54) (t : List S54) (h : d.f1 ≤ day ∧ (pp < wrap64 (p + d.f2) ∨ pi < wrap64 (i + d.f3))) : daysS pp pi day (d :: t) p i = wrap64 (day - d.f1) := by
  unfold daysS; rw [if_pos h]
theorem daysS_no (pp pi day p i : Int) (d : S54) (t : List S54) (h : ¬ (d.f1 ≤ day ∧ (pp < wrap64 (p + d.f2) ∨ pi < wrap64 (i + d.f3)))) : daysS pp pi day (d :: t) p i = daysS pp pi day t (wrap64 (p + d.f2)) (wrap64 (i + d.f3)) := by
  rw [daysS]; rw [if_neg h]
theorem arrears_Days_l0 (a0 a1 a2 a3 a4 a5 a6 a7 a8 a9 a10 a11 a12 a13 a14 a15 a16 a17 a18 a19 a20 : Int) (a21 a22 : ByteArray) (l23 : List S54) (l24 : List S50) (dy : Int) (hl : l23.length ≤ 1000000) : ∀ (d i k : Nat) (p q : Int), d + i = l23.length →
    arrears_Days.l0 (k + 2 * d + 1) dy p q l23 l23.length i a0 a1 a2 a3 a4 a5 a6 a7 a8 a9 a10 a11 a12 a13 a14 a15 a16 a17 a18 a19 a20 a21 a22 l23 l24 = some (daysS a3 a4 dy (l23.drop i) p q)
  | 0, i, k, p, q, hd => by
    simp only [arrears_Days.l0]
    rw [if_neg (by omega), List.drop_eq_nil_of_le (by omega)]; rfl
  | d + 1, i, k, p, q, hd => by
    rw [show k + 2 * (d + 1) + 1 = (k + 2 * d + 1) + 1 + 1 by omega]
    obtain ⟨m, hm⟩ : ∃ m, m = k + 2 * d + 1 := ⟨_, rfl⟩
    rw [← hm]
    have ih := fun p q => arrears_Days_l0 a0 a1 a2 a3 a4 a5 a6 a7 a8 a9 a10 a11 a12 a13 a14 a15 a16 a17 a18 a19 a20 a21 a22 l23 l24 dy hl d (i + 1) k p q (by omega)
    rw [← hm] at ih
    simp only [arrears_Days.l0]
    rw [if_pos (by omega), if_pos (by omega), if_pos (by omega), drop54 l23 i (by omega)]
    have e2 : wrap64 ((i : Int) + 1) = ((i + 1 : Nat) : Int) := by unfold wrap64; omega
    generalize rd_T54 l23 (i : Int) = x
    by_cases c1 : x.f1 ≤ dy
    · rw [if_pos c1]
      by_cases c2 : a3 < wrap64 (p + x.f2)
      · rw [if_pos c2, daysS_yes _ _ _ _ _ _ _ ⟨c1, Or.inl c2⟩]
        simp only [arrears_Days.j1, if_true]
      · rw [if_neg c2]
        by_cases c3 : a4 < wrap64 (q + x.f3)
        · rw [decide_eq_true c3, daysS_yes _ _ _ _ _ _ _ ⟨c1, Or.inr c3⟩]
          simp only [arrears_Days.j1, if_true]
        · rw [decide_eq_false c3, daysS_no _ _ _ _ _ _ _ (by rintro ⟨_, h | h⟩ <;> contradiction)]
          simp only [arrears_Days.j1]
          rw [if_neg (by decide), e2]
          exact ih _ _
    · rw [if_neg c1, daysS_no _ _ _ _ _ _ _ (fun h => c1 h.1)]
      simp only [arrears_Days.j1]
      rw [if_neg (by decide), e2]
      exact ih _ _
theorem arrears_Days_eq (a0 a1 a2 a3 a4 a5 a6 a7 a8 a9 a10 a11 a12 a13 a14 a15 a16 a17 a18 a19 a20 : Int) (a21 a22 : ByteArray) (l23 : List S54) (l24 : List S50) (dy : Int) (k : Nat) (hl : l23.length ≤ 300) : arrears_Days.f (k + 700) a0 a1 a2 a3 a4 a5 a6 a7 a8 a9 a10 a11 a12 a13 a14 a15 a16 a17 a18 a19 a20 a21 a22 l23 l24 dy = some (daysS a3 a4 dy l23 0 0) := by
  unfold arrears_Days.f
  have h := arrears_Days_l0 a0 a1 a2 a3 a4 a5 a6 a7 a8 a9 a10 a11 a12 a13 a14 a15 a16 a17 a18 a19 a20 a21 a22 l23 l24 dy (by omega) l23.length 0 (k + (699 - 2 * l23.length)) 0 0 (by omega)
  rw [show k + (699 - 2 * l23.length) + 2 * l23.length + 1 = k + 700 by omega] at h
  exact h
theorem corebankref37_Days_l0 (a0 a1 a2 a3 a4 a5 a6 a7 a8 a9 a10 a11 a12 a13 a14 a15 a16 a17 a18 a19 a20 : Int) (a21 a22 : ByteArray) (l23 : List S54) (l24 : List S50) (dy : Int) (hl : l23.length ≤ 1000000) : ∀ (d i k : Nat) (p q : Int), d + i = l23.length →
    corebankref37_Days.l0 (k + 2 * d + 1) dy p q i a0 a1 a2 a3 a4 a5 a6 a7 a8 a9 a10 a11 a12 a13 a14 a15 a16 a17 a18 a19 a20 a21 a22 l23 l24 = some (daysS a3 a4 dy (l23.drop i) p q)
  | 0, i, k, p, q, hd => by
    simp only [corebankref37_Days.l0]
    rw [if_neg (by omega), List.drop_eq_nil_of_le (by omega)]; rfl
  | d + 1, i, k, p, q, hd => by
    rw [show k + 2 * (d + 1) + 1 = (k + 2 * d + 1) + 1 + 1 by omega]
    obtain ⟨m, hm⟩ : ∃ m, m = k + 2 * d + 1 := ⟨_, rfl⟩
    rw [← hm]
    have ih := fun p q => corebankref37_Days_l0 a0 a1 a2 a3 a4 a5 a6 a7 a8 a9 a10 a11 a12 a13 a14 a15 a16 a17 a18 a19 a20 a21 a22 l23 l24 dy hl d (i + 1) k p q (by omega)
    rw [← hm] at ih
    simp only [corebankref37_Days.l0]
    rw [if_pos (by omega), if_pos (by omega), drop54 l23 i (by omega)]
    have e2 : wrap64 ((i : Int) + 1) = ((i + 1 : Nat) : Int) := by unfold wrap64; omega
    generalize rd_T54 l23 (i : Int) = x
    by_cases c1 : x.f1 ≤ dy
    · rw [if_pos c1]
      by_cases c2 : a3 < wrap64 (p + x.f2)
      · rw [if_pos c2, daysS_yes _ _ _ _ _ _ _ ⟨c1, Or.inl c2⟩]
        simp only [corebankref37_Days.j1, if_true]
      · rw [if_neg c2]
        by_cases c3 : a4 < wrap64 (q + x.f3)
        · rw [decide_eq_true c3, daysS_yes _ _ _ _ _ _ _ ⟨c1, Or.inr c3⟩]
          simp only [corebankref37_Days.j1, if_true]
        · rw [decide_eq_false c3, daysS_no _ _ _ _ _ _ _ (by rintro ⟨_, h | h⟩ <;> contradiction)]
          simp only [corebankref37_Days.j1]
          rw [if_neg (by decide), e2]
          exact ih _ _
    · rw [if_neg c1, daysS_no _ _ _ _ _ _ _ (fun h => c1 h.1)]
      simp only [corebankref37_Days.j1]
      rw [if_neg (by decide), e2]
      exact ih _ _
theorem corebankref37_Days_eq (a0 a1 a2 a3 a4 a5 a6 a7 a8 a9 a10 a11 a12 a13 a14 a15 a16 a17 a18 a19 a20 : Int) (a21 a22 : ByteArray) (l23 : List S54) (l24 : List S50) (dy : Int) (k : Nat) (hl : l23.length ≤ 300) : corebankref37_Days.f (k + 700) a0 a1 a2 a3 a4 a5 a6 a7 a8 a9 a10 a11 a12 a13 a14 a15 a16 a17 a18 a19 a20 a21 a22 l23 l24 dy = some (daysS a3 a4 dy l23 0 0) := by
  unfold corebankref37_Days.f
  have h := corebankref37_Days_l0 a0 a1 a2 a3 a4 a5 a6 a7 a8 a9 a10 a11 a12 a13 a14 a15 a16 a17 a18 a19 a20 a21 a22 l23 l24 dy (by omega) l23.length 0 (k + (699 - 2 * l23.length)) 0 0 (by omega)
  rw [show k + (699 - 2 * l23.length) + 2 * l23.length + 1 = k + 700 by omega] at h
  exact h
def stR (state d : Int) : Int := if state = 1 then (if d ≤ 30 then 1 else if d ≤ 90 then 2 else 3) else 0
def rateR (s : Int) : Int := if s = 1 then 10000 else if s = 2 then 100000 else if s = 3 then 450000 else 0
theorem prate_eq (s : Int) : provision_Rate.f s = some (rateR s) := rfl
theorem rrate_eq (s : Int) : corebankref38_Rate.f s = some (rateR s) := by
  unfold corebankref38_Rate.f rateR
  split
  · rfl
  · split
    · rfl
    · split <;> rfl
theorem pstage_eq (a0 a1 a2 a3 a4 a5 a6 a7 a8 a9 a10 a11 a12 a13 a14 a15 a16 a17 a18 a19 a20 : Int) (a21 a22 : ByteArray) (l23 : List S54) (l24 : List S50) (dy : Int) (k : Nat) (hl : l23.length ≤ 300) : provision_Stage.f (k + 700) a0 a1 a2 a3 a4 a5 a6 a7 a8 a9 a10 a11 a12 a13 a14 a15 a16 a17 a18 a19 a20 a21 a22 l23 l24 dy = some (stR a2 (daysS a3 a4 dy l23 0 0)) := by
  unfold provision_Stage.f stR
  by_cases c : a2 = 1
  · rw [if_pos c, if_pos c, arrears_Days_eq _ _ _ _ _ _ _ _ _ _ _ _ _ _ _ _ _ _ _ _ _ _ _ _ _ _ _ hl]
    simp only [Option.bind_some]
    generalize daysS a3 a4 dy l23 0 0 = d
    unfold arrears_Bucket.f
    simp only [Option.bind_some]
    by_cases h0 : d ≤ 0
    · have e1 : d ≤ 30 := by omega
      (simp only [h0, e1, if_true] <;> rfl)
    · by_cases h1 : d ≤ 30
      · (simp only [h0, h1, if_true, if_false] <;> rfl)
      · by_cases h2 : d ≤ 60
        · have e1 : d ≤ 90 := by omega
          (simp only [h0, h1, h2, e1, if_true, if_false] <;> rfl)
        · by_cases h3 : d ≤ 90
          · (simp only [h0, h1, h2, h3, if_true, if_false] <;> rfl)
          · (simp only [h0, h1, h2, h3, if_false] <;> rfl)
  · rw [if_neg c, if_neg c]
theorem rstage_eq (a0 a1 a2 a3 a4 a5 a6 a7 a8 a9 a10 a11 a12 a13 a14 a15 a16 a17 a18 a19 a20 : Int) (a21 a22 : ByteArray) (l23 : List S54) (l24 : List S50) (dy : Int) (k : Nat) (hl : l23.length ≤ 300) : corebankref38_Stage.f (k + 700) a0 a1 a2 a3 a4 a5 a6 a7 a8 a9 a10 a11 a12 a13 a14 a15 a16 a17 a18 a19 a20 a21 a22 l23 l24 dy = some (stR a2 (daysS a3 a4 dy l23 0 0)) := by
  unfold corebankref38_Stage.f stR
  by_cases c : a2 = 1
  · rw [if_pos c, if_pos c, corebankref37_Days_eq _ _ _ _ _ _ _ _ _ _ _ _ _ _ _ _ _ _ _ _ _ _ _ _ _ _ _ hl]
    simp only [Option.bind_some]
    generalize daysS a3 a4 dy l23 0 0 = d
    unfold corebankref37_Bucket.f
    by_cases h0 : d ≤ 0
    · have e1 : d ≤ 30 := by omega
      (simp only [h0, e1, if_true] <;> rfl)
    · by_cases h1 : d ≤ 30
      · (simp only [h0, h1, if_true, if_false] <;> rfl)
      · by_cases h2 : d ≤ 60
        · have e1 : d ≤ 90 := by omega
          (simp only [h0, h1, h2, e1, if_true, if_false] <;> rfl)
        · by_cases h3 : d ≤ 90
          · (simp only [h0, h1, h2, h3, if_true, if_false] <;> rfl)
          · (simp only [h0, h1, h2, h3, if_false] <;> rfl)
  · rw [if_neg c, if_neg c]
theorem great_l0 (a0 a1 a2 a3 a4 a5 a6 a7 a8 a9 a10 a11 a12 a13 a14 a15 a16 a17 a18 a19 a20 : Int) (a21 a22 : ByteArray) (l23 : List S54) (l24 : List S50) (h : l24.length ≤ 70) : ∀ (d i k : Nat), d + i = l24.length → ∃ b, corebankref38_Great.l0 (k + 2 * d + 1) i a0 a1 a2 a3 a4 a5 a6 a7 a8 a9 a10 a11 a12 a13 a14 a15 a16 a17 a18 a19 a20 a21 a22 l23 l24 = some b
  | 0, i, k, hd => by
    refine ⟨false, ?_⟩
    simp only [corebankref38_Great.l0]
    rw [if_neg (by omega)]
  | d + 1, i, k, hd => by
    rw [show k + 2 * (d + 1) + 1 = (k + 2 * d + 1) + 1 + 1 by omega]
    obtain ⟨b, hb⟩ := great_l0 a0 a1 a2 a3 a4 a5 a6 a7 a8 a9 a10 a11 a12 a13 a14 a15 a16 a17 a18 a19 a20 a21 a22 l23 l24 h d (i + 1) k (by omega)
    obtain ⟨m, hm⟩ : ∃ m, m = k + 2 * d + 1 := ⟨_, rfl⟩
    rw [← hm] at hb ⊢
    simp only [corebankref38_Great.l0]
    rw [if_pos (by omega), if_pos (by omega)]
    have e2 : wrap64 ((i : Int) + 1) = ((i + 1 : Nat) : Int) := by unfold wrap64; omega
    have hj : ∀ c : Bool, ∃ b, corebankref38_Great.j2 (m + 1) i c a0 a1 a2 a3 a4 a5 a6 a7 a8 a9 a10 a11 a12 a13 a14 a15 a16 a17 a18 a19 a20 a21 a22 l23 l24 = some b := by
      intro c
      simp only [corebankref38_Great.j2]
      cases c with
      | true => exact ⟨true, rfl⟩
      | false => rw [e2]; exact ⟨b, by rw [if_neg (by decide)]; exact hb⟩
    split
    · exact hj _
    · exact hj _
theorem great_eq (a0 a1 a2 a3 a4 a5 a6 a7 a8 a9 a10 a11 a12 a13 a14 a15 a16 a17 a18 a19 a20 : Int) (a21 a22 : ByteArray) (l23 : List S54) (l24 : List S50) (k : Nat) : ∃ b, corebankref38_Great.f (k + 700) a0 a1 a2 a3 a4 a5 a6 a7 a8 a9 a10 a11 a12 a13 a14 a15 a16 a17 a18 a19 a20 a21 a22 l23 l24 = some b ∧ (b = false → l23.length ≤ 260) := by
  unfold corebankref38_Great.f
  have hbig : corebankref38_Great.j0 (k + 700) true a0 a1 a2 a3 a4 a5 a6 a7 a8 a9 a10 a11 a12 a13 a14 a15 a16 a17 a18 a19 a20 a21 a22 l23 l24 = some true := by
    rw [show k + 700 = (k + 699) + 1 by omega]; simp only [corebankref38_Great.j0, if_true]
  by_cases c0 : (l23.length : Int) > 260
  · rw [if_pos c0]; exact ⟨true, hbig, fun h => by cases h⟩
  · rw [if_neg c0]
    by_cases c1 : (l24.length : Int) > 70
    · rw [if_pos c1]; exact ⟨true, hbig, fun h => by cases h⟩
    · rw [if_neg c1]
      by_cases c2 : (a21.size : Int) > 100
      · rw [if_pos c2]; exact ⟨true, hbig, fun h => by cases h⟩
      · rw [if_neg c2]
        rw [show k + 700 = (k + 699) + 1 by omega]
        simp only [corebankref38_Great.j0]
        by_cases c3 : (a22.size : Int) > 100
        · rw [decide_eq_true c3, if_pos rfl]; exact ⟨true, rfl, fun h => by cases h⟩
        · rw [decide_eq_false c3, if_neg (by decide)]
          obtain ⟨b, hb⟩ := great_l0 a0 a1 a2 a3 a4 a5 a6 a7 a8 a9 a10 a11 a12 a13 a14 a15 a16 a17 a18 a19 a20 a21 a22 l23 l24 (by omega) l24.length 0 (k + (698 - 2 * l24.length)) (by omega)
          rw [show k + (698 - 2 * l24.length) + 2 * l24.length + 1 = k + 699 by omega] at hb
          exact ⟨b, hb, fun _ => by omega⟩
theorem live_at (k : Nat) : corebanklaw38_Live.f (k + 40) = some true :=
  at_rounds (g := corebanklaw38_Live.f) corebanklaw38_Live.mono (by omega) corebanklaw38_Live.f_true
theorem ProvisionStages_pure (x : S27) (a1 a2 : Int) : ∃ k, corebanklaw38_ProvisionStages.f k x.f0 x.f1 x.f2 x.f3 x.f4 x.f5 x.f6 x.f7 x.f8 x.f9 x.f10 x.f11.f0 x.f11.f1 x.f11.f2 x.f11.f3 x.f11.f4 x.f11.f5 x.f11.f6 x.f11.f7 x.f11.f8 x.f11.f9 x.f11.f10 x.f11.f11 x.f12 x.f13 a1 a2 = some true := by
  refine ⟨700, ?_⟩
  unfold corebanklaw38_ProvisionStages.f
  obtain ⟨b, hb, hl⟩ := great_eq x.f0 x.f1 x.f2 x.f3 x.f4 x.f5 x.f6 x.f7 x.f8 x.f9 x.f10 x.f11.f0 x.f11.f1 x.f11.f2 x.f11.f3 x.f11.f4 x.f11.f5 x.f11.f6 x.f11.f7 x.f11.f8 x.f11.f9 x.f11.f10 x.f11.f11 x.f12 x.f13 0
  rw [show 0 + 700 = 700 from rfl] at hb
  have hL := live_at 660
  rw [show 660 + 40 = 700 from rfl] at hL
  rw [hb, hL]
  simp only [Option.bind_some]
  cases b with
  | true => rw [if_pos rfl]
  | false =>
    rw [if_neg (by decide)]
    have h := hl rfl
    have h1 := pstage_eq x.f0 x.f1 x.f2 x.f3 x.f4 x.f5 x.f6 x.f7 x.f8 x.f9 x.f10 x.f11.f0 x.f11.f1 x.f11.f2 x.f11.f3 x.f11.f4 x.f11.f5 x.f11.f6 x.f11.f7 x.f11.f8 x.f11.f9 x.f11.f10 x.f11.f11 x.f12 x.f13 a1 0 (by omega)
    have h2 := rstage_eq x.f0 x.f1 x.f2 x.f3 x.f4 x.f5 x.f6 x.f7 x.f8 x.f9 x.f10 x.f11.f0 x.f11.f1 x.f11.f2 x.f11.f3 x.f11.f4 x.f11.f5 x.f11.f6 x.f11.f7 x.f11.f8 x.f11.f9 x.f11.f10 x.f11.f11 x.f12 x.f13 a1 0 (by omega)
    rw [show 0 + 700 = 700 from rfl] at h1 h2
    rw [h1, h2, prate_eq, rrate_eq]
    simp only [Option.bind_some, if_true]
end Go.Proofs.YtjkjiibhdpcpkaaDoor.PureProvisionStages
