import Derived.Deep.Slices
import Derived.Lib.SmallJoins
import Derived.Test.YtjkjiibhdpcpkaaDoorQRm13
section
namespace Go.Proofs.YtjkjiibhdpcpkaaDoor.PureProvisionExpects
open Go.RowKit Go.Proofs.YtjkjiibhdpcpkaaDoor.PS Go.Proofs.YtjkjiibhdpcpkaaDoorW.PrintWords Go.Proofs.YtjkjiibhdpcpkaaDoorW.PrintLast
set_option linter.unusedVariables false
set_option linter.unusedSimpArgs false
open Go.ChangeShapes Go.WideShapes Go.ChangeAt Go.Joins
/-- What data of type t reads as, read as a value of the kind d. -/
def Rd {α : Type} (d : Kd α) (t : TypeId) (G : α → Prop) : Prop :=
  ∀ {H : Type} (enc : TypeId × Value → H) (w : World) (base : Nat) (spare : Nat → Bool) (held : Bool) (fuel : Nat) (cs : List Value) (x : DataW H × List MemPlace),
    DataW.trod enc Tryd.prog w base spare held fuel t cs = some x → ∃ y, d.K w y cs ∧ G y
theorem Rd_int {t : TypeId} {k : IntKind} (ht : Tryd.prog.underlying t = some (.int k)) : Rd (Kd.int k) t (fun n => (Lit.int k n).wf = true) := by
  intro H enc w base spare held fuel cs x h
  obtain ⟨n, rfl, _, hw⟩ := DataW.trod_int ht h
  exact ⟨n, rfl, hw⟩
theorem Rd_string {t : TypeId} (ht : Tryd.prog.underlying t = some .string) : Rd Kd.string t (fun s => s.size ≤ maxLen) := by
  intro H enc w base spare held fuel cs x h
  obtain ⟨s, rfl, _, hw⟩ := DataW.trod_string ht h
  exact ⟨s, rfl, hw⟩
/-- The fields from a place on. -/
def RdF {α : Type} (d : Kd α) (fs : List Field) (off tot : Nat) (G : α → Prop) : Prop :=
  ∀ {H : Type} (enc : TypeId × Value → H) (w : World) (base : Nat) (spare : Nat → Bool) (held : Bool) (cs : List Value), cs.length = tot →
    (∀ f ∈ fs, ∃ n y, DataW.trod enc Tryd.prog w base spare held n f.type ((cs.drop f.offset).take (Tryd.prog.cellsOf f.type)) = some y) → ∃ y, d.K w y (cs.drop off) ∧ G y
theorem RdF_one {α : Type} {d : Kd α} {G : α → Prop} {f : Field} {tot : Nat} (h : Rd d f.type G) (hc : f.offset + Tryd.prog.cellsOf f.type = tot) : RdF d [f] f.offset tot G := by
  intro H enc w base spare held cs hl hf
  obtain ⟨n, y, hy⟩ := hf f List.mem_cons_self
  rw [List.take_of_length_le (by rw [List.length_drop]; omega)] at hy
  exact h enc w base spare held n _ _ hy
theorem RdF_cons {α β : Type} {d : Kd α} {d' : Kd β} {G : α → Prop} {G' : β → Prop} {f : Field} {fs : List Field} {off tot : Nat} (h : Rd d f.type G) (h' : RdF d' fs off tot G') (hc : f.offset + Tryd.prog.cellsOf f.type = off) :
    RdF (Kd.pair d d') (f :: fs) f.offset tot (fun p => G p.1 ∧ G' p.2) := by
  intro H enc w base spare held cs hl hf
  obtain ⟨n, y, hy⟩ := hf f List.mem_cons_self
  obtain ⟨a, ha, ga⟩ := h enc w base spare held n _ _ hy
  obtain ⟨b, hb, gb⟩ := h' enc w base spare held cs hl (fun g hg => hf g (List.mem_cons_of_mem _ hg))
  refine ⟨(a, b), ⟨_, _, ?_, ha, hb⟩, ga, gb⟩
  rw [← hc, ← List.drop_drop, List.take_append_drop]
theorem Rd_struct {α β : Type} {d : Kd β} {G : β → Prop} {t : TypeId} {fs : Array Field} {f : α → β} (g : β → α) (he : Tryd.prog.underlying t = some (.struct fs)) (h : RdF d fs.toList 0 (Tryd.prog.cellsOf t) G) (hg : ∀ y, f (g y) = y) :
    Rd (Kd.iso d f) t (fun x => G (f x)) := by
  intro H enc w base spare held fuel cs x hx
  obtain ⟨xs, n, _, rfl, hl, hlen, hf⟩ := DataW.trod_struct he hx
  obtain ⟨y, hy, gy⟩ := h enc w base spare held cs hl (fun q hq => by
    obtain ⟨i, hi, rfl⟩ := List.getElem_of_mem hq
    have hi' : i < fs.size := by simpa using hi
    have e := hf i fs[i] (by simp [hi'])
    rw [List.getElem?_eq_getElem (by omega)] at e
    exact ⟨n, _, by simpa using e⟩)
  rw [List.drop_zero] at hy
  refine ⟨g y, ?_, ?_⟩
  · show d.K w (f (g y)) cs
    rw [hg]; exact hy
  · show G (f (g y))
    rw [hg]; exact gy
theorem Rd_slice {α : Type} [Inhabited α] {d : Kd α} {G : α → Prop} {t e : TypeId} (ht : Tryd.prog.underlying t = some (.slice e)) (hc : Tryd.prog.cellsOf e = d.sz) (h : Rd d e G) :
    Rd (Kd.slice e d) t (fun xs => ∀ x ∈ xs, G x) := by
  intro H enc w base spare held fuel cs x hx
  rcases Go.Deep.open_slice ht hx with ⟨rfl, _⟩ | ⟨a, len, cap, m, n, D, Pl, rfl, hb, hl, hm, hmm, _, hel⟩
  · exact ⟨[], ⟨none, 0, rfl, Nat.le_refl _, rfl, by simp, fun h => absurd h (Nat.lt_irrefl 0)⟩, by simp⟩
  · have hlm : len ≤ m := by rw [hmm]; split <;> omega
    have each : ∀ i, i < len → ∃ y : α, ∃ c, w.cells? base (a.add (i * Tryd.prog.cellsOf e)) (Tryd.prog.cellsOf e) = some c ∧ d.K w y c ∧ G y := by
      intro i hi
      obtain ⟨c, h1, h2⟩ := hel i (by omega)
      obtain ⟨y, hy, gy⟩ := h enc w base spare held n c _ h2
      exact ⟨y, c, h1, hy, gy⟩
    obtain ⟨q, hq⟩ := Go.Deep.choose_lt each
    have hlen : ((List.range len).map q).length = len := by simp
    refine ⟨(List.range len).map q, ⟨some a, cap, by rw [hlen], by rw [hlen]; exact hl, ?_⟩, ?_⟩
    · rw [hlen]
      refine ⟨hlen, by unfold maxLen at hm; omega, fun _ => ⟨a, rfl, ?_⟩⟩
      intro j p hj
      have hj' : j < len := by
        have := (List.getElem?_eq_some_iff.1 hj).1
        simpa using this
      have hp : q j = p := by
        rw [List.getElem?_map, List.getElem?_range hj'] at hj
        simpa using hj
      subst hp
      obtain ⟨c, h1, h2, _⟩ := hq j hj'
      obtain ⟨_, hcl, hcell⟩ := World.cells?_some h1
      refine ⟨c, by rw [hcl, hc], h2, ?_⟩
      intro i u hi
      have hil : i < c.length := (List.getElem?_eq_some_iff.1 hi).1
      have := hcell i (by omega)
      rw [Go.Deep.add_add] at this
      rw [hc] at this
      rw [this, hi]
    · intro x hx
      obtain ⟨j, hj, rfl⟩ := List.mem_map.1 hx
      exact (hq j (List.mem_range.1 hj)).choose_spec.2.2
def W23 (x : S23) : Prop := ((Lit.int .i64 x.f0).wf = true) ∧ ((Lit.int .i64 x.f1).wf = true) ∧ ((Lit.int .i64 x.f2).wf = true) ∧ ((Lit.int .i64 x.f3).wf = true) ∧ ((Lit.int .i64 x.f4).wf = true) ∧ ((Lit.int .i64 x.f5).wf = true) ∧ ((Lit.int .i64 x.f6).wf = true) ∧ ((Lit.int .i64 x.f7).wf = true) ∧ ((Lit.int .i64 x.f8).wf = true) ∧ ((Lit.int .i64 x.f9).wf = true) ∧ (x.f10.size ≤ maxLen) ∧ (x.f11.size ≤ maxLen)
instance : Inhabited S23 := ⟨⟨default, default, default, default, default, default, default, default, default, default, default, default⟩⟩
set_option maxRecDepth 100000 in
theorem rd23 : Rd k23 23 W23 := Rd_struct (fun y => ⟨y.1, y.2.1, y.2.2.1, y.2.2.2.1, y.2.2.2.2.1, y.2.2.2.2.2.1, y.2.2.2.2.2.2.1, y.2.2.2.2.2.2.2.1, y.2.2.2.2.2.2.2.2.1, y.2.2.2.2.2.2.2.2.2.1, y.2.2.2.2.2.2.2.2.2.2.1, y.2.2.2.2.2.2.2.2.2.2.2⟩) Tryd.underlying23 (RdF_cons (Rd_int Tryd.underlying3) (RdF_cons (Rd_int Tryd.underlying3) (RdF_cons (Rd_int Tryd.underlying3) (RdF_cons (Rd_int Tryd.underlying3) (RdF_cons (Rd_int Tryd.underlying3) (RdF_cons (Rd_int Tryd.underlying3) (RdF_cons (Rd_int Tryd.underlying3) (RdF_cons (Rd_int Tryd.underlying3) (RdF_cons (Rd_int Tryd.underlying3) (RdF_cons (Rd_int Tryd.underlying3) (RdF_cons (Rd_string Tryd.underlying9) (RdF_one (Rd_string Tryd.underlying9) (by kernel_rfl)) (by kernel_rfl)) (by kernel_rfl)) (by kernel_rfl)) (by kernel_rfl)) (by kernel_rfl)) (by kernel_rfl)) (by kernel_rfl)) (by kernel_rfl)) (by kernel_rfl)) (by kernel_rfl)) (by kernel_rfl)) (fun _ => rfl)
def W54 (x : S54) : Prop := ((Lit.int .i64 x.f0).wf = true) ∧ ((Lit.int .i64 x.f1).wf = true) ∧ ((Lit.int .i64 x.f2).wf = true) ∧ ((Lit.int .i64 x.f3).wf = true)
instance : Inhabited S54 := ⟨⟨default, default, default, default⟩⟩
set_option maxRecDepth 100000 in
theorem rd54 : Rd k54 54 W54 := Rd_struct (fun y => ⟨y.1, y.2.1, y.2.2.1, y.2.2.2⟩) Tryd.underlying54 (RdF_cons (Rd_int Tryd.underlying3) (RdF_cons (Rd_int Tryd.underlying3) (RdF_cons (Rd_int Tryd.underlying3) (RdF_one (Rd_int Tryd.underlying3) (by kernel_rfl)) (by kernel_rfl)) (by kernel_rfl)) (by kernel_rfl)) (fun _ => rfl)
def W50 (x : S50) : Prop := ((Lit.int .i64 x.f0).wf = true) ∧ ((Lit.int .i64 x.f1).wf = true) ∧ (W23 x.f2)
instance : Inhabited S50 := ⟨⟨default, default, default⟩⟩
set_option maxRecDepth 100000 in
theorem rd50 : Rd k50 50 W50 := Rd_struct (fun y => ⟨y.1, y.2.1, y.2.2⟩) Tryd.underlying50 (RdF_cons (Rd_int Tryd.underlying3) (RdF_cons (Rd_int Tryd.underlying3) (RdF_one rd23 (by kernel_rfl)) (by kernel_rfl)) (by kernel_rfl)) (fun _ => rfl)
def W27 (x : S27) : Prop := ((Lit.int .i64 x.f0).wf = true) ∧ ((Lit.int .i64 x.f1).wf = true) ∧ ((Lit.int .i64 x.f2).wf = true) ∧ ((Lit.int .i64 x.f3).wf = true) ∧ ((Lit.int .i64 x.f4).wf = true) ∧ ((Lit.int .i64 x.f5).wf = true) ∧ ((Lit.int .i64 x.f6).wf = true) ∧ ((Lit.int .i64 x.f7).wf = true) ∧ ((Lit.int .i64 x.f8).wf = true) ∧ ((Lit.int .i64 x.f9).wf = true) ∧ ((Lit.int .i64 x.f10).wf = true) ∧ (W23 x.f11) ∧ (∀ y ∈ x.f12, W54 y) ∧ (∀ y ∈ x.f13, W50 y)
instance : Inhabited S27 := ⟨⟨default, default, default, default, default, default, default, default, default, default, default, default, default, default⟩⟩
set_option maxRecDepth 100000 in
theorem rd27 : Rd k27 27 W27 := Rd_struct (fun y => ⟨y.1, y.2.1, y.2.2.1, y.2.2.2.1, y.2.2.2.2.1, y.2.2.2.2.2.1, y.2.2.2.2.2.2.1, y.2.2.2.2.2.2.2.1, y.2.2.2.2.2.2.2.2.1, y.2.2.2.2.2.2.2.2.2.1, y.2.2.2.2.2.2.2.2.2.2.1, y.2.2.2.2.2.2.2.2.2.2.2.1, y.2.2.2.2.2.2.2.2.2.2.2.2.1, y.2.2.2.2.2.2.2.2.2.2.2.2.2⟩) Tryd.underlying27 (RdF_cons (Rd_int Tryd.underlying3) (RdF_cons (Rd_int Tryd.underlying3) (RdF_cons (Rd_int Tryd.underlying3) (RdF_cons (Rd_int Tryd.underlying3) (RdF_cons (Rd_int Tryd.underlying3) (RdF_cons (Rd_int Tryd.underlying3) (RdF_cons (Rd_int Tryd.underlying3) (RdF_cons (Rd_int Tryd.underlying3) (RdF_cons (Rd_int Tryd.underlying3) (RdF_cons (Rd_int Tryd.underlying3) (RdF_cons (Rd_int Tryd.underlying3) (RdF_cons rd23 (RdF_cons (Rd_slice Tryd.underlying24 (by kernel_rfl) rd54) (RdF_one (Rd_slice Tryd.underlying25 (by kernel_rfl) rd50) (by kernel_rfl)) (by kernel_rfl)) (by kernel_rfl)) (by kernel_rfl)) (by kernel_rfl)) (by kernel_rfl)) (by kernel_rfl)) (by kernel_rfl)) (by kernel_rfl)) (by kernel_rfl)) (by kernel_rfl)) (by kernel_rfl)) (by kernel_rfl)) (by kernel_rfl)) (fun _ => rfl)
set_option maxRecDepth 100000 in
theorem open27 {H : Type} {enc : TypeId × Value → H} {W : World} {base : Nat} {spare : Nat → Bool} {held : Bool} {r : Reach} {b0 : Nat} {v : Value} {d : DataW H} {p : List MemPlace} (hv : Value.okWide Tryd.prog W r b0 27 v) (h : DataW.Trod enc Tryd.prog W base spare held 27 v d p) :
    ∃ (y : S27) (A23 : Option Addr) (c23 : Nat) (A24 : Option Addr) (c24 : Nat), v = .agg #[.int .i64 y.f0, .int .i64 y.f1, .int .i64 y.f2, .int .i64 y.f3, .int .i64 y.f4, .int .i64 y.f5, .int .i64 y.f6, .int .i64 y.f7, .int .i64 y.f8, .int .i64 y.f9, .int .i64 y.f10, .int .i64 y.f11.f0, .int .i64 y.f11.f1, .int .i64 y.f11.f2, .int .i64 y.f11.f3, .int .i64 y.f11.f4, .int .i64 y.f11.f5, .int .i64 y.f11.f6, .int .i64 y.f11.f7, .int .i64 y.f11.f8, .int .i64 y.f11.f9, .string y.f11.f10, .string y.f11.f11, .slice A23 y.f12.length c23, .slice A24 y.f13.length c24] ∧ y.f12.length ≤ c23 ∧ Kd.C k54 W A23 y.f12.length y.f12 ∧ y.f13.length ≤ c24 ∧ Kd.C k50 W A24 y.f13.length y.f13 ∧ W27 y := by
  obtain ⟨cs, rfl, hsz⟩ := okWide_struct Tryd.underlying27 hv
  obtain ⟨fu, hf⟩ := h
  obtain ⟨y, hk, gy⟩ := rd27 enc W base _ _ fu _ _ hf
  obtain ⟨A23, c23, A24, c24, hcs, q0, q1, q2, q3⟩ := k27_open hk
  refine ⟨y, A23, c23, A24, c24, ?_, q0, q1, q2, q3, gy⟩
  obtain ⟨l⟩ := cs
  have e : l = _ := hcs
  subst e
  rfl
theorem drop54 (l : List S54) (i : Nat) (h : i < l.length) : l.drop i = rd_T54 l (i : Int) :: l.drop (i + 1) := by
  rw [List.drop_eq_getElem_cons h]
  congr 1
  unfold rd_T54
  simp [List.getD_eq_getElem?_getD, h]
/-- The days of arrears. -/
def daysS (pp pi day : Int) : List S54 → Int → Int → Int
  | [], _, _ => 0
  | d :: t, p, i => if d.f1 ≤ day ∧ (pp < wrap64 (p + d.f2) ∨ pi < wrap64 (i + d.f3)) then wrap64 (day - d.f1) else daysS pp pi day t (wrap64 (p + d.f2)) (wrap64 (i + d.f3))
theorem daysS_yes (pp pi day p i : Int) (d : S54) (t : List S54) (h : d.f1 ≤ day ∧ (pp < wrap64 (p + d.f2) ∨ pi < wrap64 (i + d.f3))) : daysS pp pi day (d :: t) p i = wrap64 (day - d.f1) := by
  unfold daysS; rw [if_pos h]
theorem daysS_no (pp pi day p i : Int) (d : S54) (t : List S54) (h : ¬ (d.f1 ≤ day ∧ (pp < wrap64 (p + d.f2) ∨ pi < wrap64 (i + d.f3)))) : daysS pp pi day (d :: t) p i = daysS pp pi day t (wrap64 (p + d.f2)) (wrap64 (i + d.f3)) := by
  rw [daysS]; rw [if_neg h]
theorem arrears_Days_l0 (a0 a1 a2 a3 a4 a5 a6 a7 a8 a9 a10 a11 a12 a13 a14 a15 a16 a17 a18 a19 a20 : Int) (a21 a22 : ByteArray) (l23 : List S54) (l24 : List S50) (dy : Int) (hl : l23.length ≤ 1000000) : ∀ (d i k : Nat) (p q : Int), d + i = l23.length →
    arrears_Days.l0 (k + 2 * d + 1) dy p q l23 l23.length i a0 a1 a2 a3 a4 a5 a6 a7 a8 a9 a10 a11 a12 a13 a14 a15 a16 a17 a18 a19 a20 a21 a22 l23 l24 = some (daysS a3 a4 dy (l23.drop i) p q)
  | 0, i, k, p, q, hd => by
    simp only [arrears_Days.l0]
    rw [if_neg (by omega), List.drop_eq_nil_of_le (by omega)]; rfl
  | d + 1, i, k, p, q, hd => by
    rw [show k + 2 * (d + 1) + 1 = (k + 2 * d + 1) + 1 + 1 by omega]
    obtain ⟨m, hm⟩ : ∃ m, m = k + 2 * d + 1 := ⟨_, rfl⟩
    rw [← hm]
    have ih := fun p q => arrears_Days_l0 a0 a1 a2 a3 a4 a5 a6 a7 a8 a9 a10 a11 a12 a13 a14 a15 a16 a17 a18 a19 a20 a21 a22 l23 l24 dy hl d (i + 1) k p q (by omega)
    rw [← hm] at ih
    simp only [arrears_Days.l0]
    rw [if_pos (by omega), if_pos (by omega), if_pos (by omega), drop54 l23 i (by omega)]
    have e2 : wrap64 ((i : Int) + 1) = ((i + 1 : Nat) : Int) := by unfold wrap64; omega
    generalize rd_T54 l23 (i : Int) = x
    by_cases c1 : x.f1 ≤ dy
    · rw [if_pos c1]
      by_cases c2 : a3 < wrap64 (p + x.f2)
      · rw [if_pos c2, daysS_yes _ _ _ _ _ _ _ ⟨c1, Or.inl c2⟩]
        simp only [arrears_Days.j1, if_true]
      · rw [if_neg c2]
        by_cases c3 : a4 < wrap64 (q + x.f3)
        · rw [decide_eq_true c3, daysS_yes _ _ _ _ _ _ _ ⟨c1, Or.inr c3⟩]
          simp only [arrears_Days.j1, if_true]
        · rw [decide_eq_false c3, daysS_no _ _ _ _ _ _ _ (by rintro ⟨_, h | h⟩ <;> contradiction)]
          simp only [arrears_Days.j1]
          rw [if_neg (by decide), e2]
          exact ih _ _
    · rw [if_neg c1, daysS_no _ _ _ _ _ _ _ (fun h => c1 h.1)]
      simp only [arrears_Days.j1]
      rw [if_neg (by decide), e2]
      exact ih _ _
theorem arrears_Days_eq (a0 a1 a2 a3 a4 a5 a6 a7 a8 a9 a10 a11 a12 a13 a14 a15 a16 a17 a18 a19 a20 : Int) (a21 a22 : ByteArray) (l23 : List S54) (l24 : List S50) (dy : Int) (k : Nat) (hl : l23.length ≤ 300) : arrears_Days.f (k + 700) a0 a1 a2 a3 a4 a5 a6 a7 a8 a9 a10 a11 a12 a13 a14 a15 a16 a17 a18 a19 a20 a21 a22 l23 l24 dy = some (daysS a3 a4 dy l23 0 0) := by
  unfold arrears_Days.f
  have h := arrears_Days_l0 a0 a1 a2 a3 a4 a5 a6 a7 a8 a9 a10 a11 a12 a13 a14 a15 a16 a17 a18 a19 a20 a21 a22 l23 l24 dy (by omega) l23.length 0 (k + (699 - 2 * l23.length)) 0 0 (by omega)
  rw [show k + (699 - 2 * l23.length) + 2 * l23.length + 1 = k + 700 by omega] at h
  exact h
theorem corebankref37_Days_l0 (a0 a1 a2 a3 a4 a5 a6 a7 a8 a9 a10 a11 a12 a13 a14 a15 a16 a17 a18 a19 a20 : Int) (a21 a22 : ByteArray) (l23 : List S54) (l24 : List S50) (dy : Int) (hl : l23.length ≤ 1000000) : ∀ (d i k : Nat) (p q : Int), d + i = l23.length →
    corebankref37_Days.l0 (k + 2 * d + 1) dy p q i a0 a1 a2 a3 a4 a5 a6 a7 a8 a9 a10 a11 a12 a13 a14 a15 a16 a17 a18 a19 a20 a21 a22 l23 l24 = some (daysS a3 a4 dy (l23.drop i) p q)
  | 0, i, k, p, q, hd => by
    simp only [corebankref37_Days.l0]
    rw [if_neg (by omega), List.drop_eq_nil_of_le (by omega)]; rfl
  | d + 1, i, k, p, q, hd => by
    rw [show k + 2 * (d + 1) + 1 = (k + 2 * d + 1) + 1 + 1 by omega]
    obtain ⟨m, hm⟩ : ∃ m, m = k + 2 * d + 1 := ⟨_, rfl⟩
    rw [← hm]
    have ih := fun p q => corebankref37_Days_l0 a0 a1 a2 a3 a4 a5 a6 a7 a8 a9 a10 a11 a12 a13 a14 a15 a16 a17 a18 a19 a20 a21 a22 l23 l24 dy hl d (i + 1) k p q (by omega)
    rw [← hm] at ih
    simp only [corebankref37_Days.l0]
    rw [if_pos (by omega), if_pos (by omega), drop54 l23 i (by omega)]
    have e2 : wrap64 ((i : Int) + 1) = ((i + 1 : Nat) : Int) := by unfold wrap64; omega
    generalize rd_T54 l23 (i : Int) = x
    by_cases c1 : x.f1 ≤ dy
    · rw [if_pos c1]
      by_cases c2 : a3 < wrap64 (p + x.f2)
      · rw [if_pos c2, daysS_yes _ _ _ _ _ _ _ ⟨c1, Or.inl c2⟩]
        simp only [corebankref37_Days.j1, if_true]
      · rw [if_neg c2]
        by_cases c3 : a4 < wrap64 (q + x.f3)
        · rw [decide_eq_true c3, daysS_yes _ _ _ _ _ _ _ ⟨c1, Or.inr c3⟩]
          simp only [corebankref37_Days.j1, if_true]
        · rw [decide_eq_false c3, daysS_no _ _ _ _ _ _ _ (by rintro ⟨_, h | h⟩ <;> contradiction)]
          simp only [corebankref37_Days.j1]
          rw [if_neg (by decide), e2]
          exact ih _ _
    · rw [if_neg c1, daysS_no _ _ _ _ _ _ _ (fun h => c1 h.1)]
      simp only [corebankref37_Days.j1]
      rw [if_neg (by decide), e2]
      exact ih _ _
theorem corebankref37_Days_eq (a0 a1 a2 a3 a4 a5 a6 a7 a8 a9 a10 a11 a12 a13 a14 a15 a16 a17 a18 a19 a20 : Int) (a21 a22 : ByteArray) (l23 : List S54) (l24 : List S50) (dy : Int) (k : Nat) (hl : l23.length ≤ 300) : corebankref37_Days.f (k + 700) a0 a1 a2 a3 a4 a5 a6 a7 a8 a9 a10 a11 a12 a13 a14 a15 a16 a17 a18 a19 a20 a21 a22 l23 l24 dy = some (daysS a3 a4 dy l23 0 0) := by
  unfold corebankref37_Days.f
  have h := corebankref37_Days_l0 a0 a1 a2 a3 a4 a5 a6 a7 a8 a9 a10 a11 a12 a13 a14 a15 a16 a17 a18 a19 a20 a21 a22 l23 l24 dy (by omega) l23.length 0 (k + (699 - 2 * l23.length)) 0 0 (by omega)
  rw [show k + (699 - 2 * l23.length) + 2 * l23.length + 1 = k + 700 by omega] at h
  exact h
def stR (state d : Int) : Int := if state = 1 then (if d ≤ 30 then 1 else if d ≤ 90 then 2 else 3) else 0
def rateR (s : Int) : Int := if s = 1 then 10000 else if s = 2 then 100000 else if s = 3 then 450000 else 0
theorem prate_eq (s : Int) : provision_Rate.f s = some (rateR s) := rfl
theorem rrate_eq (s : Int) : corebankref38_Rate.f s = some (rateR s) := by
  unfold corebankref38_Rate.f rateR
  split
  · rfl
  · split
    · rfl
    · split <;> rfl
theorem pstage_eq (a0 a1 a2 a3 a4 a5 a6 a7 a8 a9 a10 a11 a12 a13 a14 a15 a16 a17 a18 a19 a20 : Int) (a21 a22 : ByteArray) (l23 : List S54) (l24 : List S50) (dy : Int) (k : Nat) (hl : l23.length ≤ 300) : provision_Stage.f (k + 700) a0 a1 a2 a3 a4 a5 a6 a7 a8 a9 a10 a11 a12 a13 a14 a15 a16 a17 a18 a19 a20 a21 a22 l23 l24 dy = some (stR a2 (daysS a3 a4 dy l23 0 0)) := by
  unfold provision_Stage.f stR
  by_cases c : a2 = 1
  · rw [if_pos c, if_pos c, arrears_Days_eq _ _ _ _ _ _ _ _ _ _ _ _ _ _ _ _ _ _ _ _ _ _ _ _ _ _ _ hl]
    simp only [Option.bind_some]
    generalize daysS a3 a4 dy l23 0 0 = d
    unfold arrears_Bucket.f
    simp only [Option.bind_some]
    by_cases h0 : d ≤ 0
    · have e1 : d ≤ 30 := by omega
      (simp only [h0, e1, if_true] <;> rfl)
    · by_cases h1 : d ≤ 30
      · (simp only [h0, h1, if_true, if_false] <;> rfl)
      · by_cases h2 : d ≤ 60
        · have e1 : d ≤ 90 := by omega
          (simp only [h0, h1, h2, e1, if_true, if_false] <;> rfl)
        · by_cases h3 : d ≤ 90
          · (simp only [h0, h1, h2, h3, if_true, if_false] <;> rfl)
          · (simp only [h0, h1, h2, h3, if_false] <;> rfl)
  · rw [if_neg c, if_neg c]
theorem rstage_eq (a0 a1 a2 a3 a4 a5 a6 a7 a8 a9 a10 a11 a12 a13 a14 a15 a16 a17 a18 a19 a20 : Int) (a21 a22 : ByteArray) (l23 : List S54) (l24 : List S50) (dy : Int) (k : Nat) (hl : l23.length ≤ 300) : corebankref38_Stage.f (k + 700) a0 a1 a2 a3 a4 a5 a6 a7 a8 a9 a10 a11 a12 a13 a14 a15 a16 a17 a18 a19 a20 a21 a22 l23 l24 dy = some (stR a2 (daysS a3 a4 dy l23 0 0)) := by
  unfold corebankref38_Stage.f stR
  by_cases c : a2 = 1
  · rw [if_pos c, if_pos c, corebankref37_Days_eq _ _ _ _ _ _ _ _ _ _ _ _ _ _ _ _ _ _ _ _ _ _ _ _ _ _ _ hl]
    simp only [Option.bind_some]
    generalize daysS a3 a4 dy l23 0 0 = d
    unfold corebankref37_Bucket.f
    by_cases h0 : d ≤ 0
    · have e1 : d ≤ 30 := by omega
      (simp only [h0, e1, if_true] <;> rfl)
    · by_cases h1 : d ≤ 30
      · (simp only [h0, h1, if_true, if_false] <;> rfl)
      · by_cases h2 : d ≤ 60
        · have e1 : d ≤ 90 := by omega
          (simp only [h0, h1, h2, e1, if_true, if_false] <;> rfl)
        · by_cases h3 : d ≤ 90
          · (simp only [h0, h1, h2, h3, if_true, if_false] <;> rfl)
          · (simp only [h0, h1, h2, h3, if_false] <;> rfl)
  · rw [if_neg c, if_neg c]
theorem great_l0 (a0 a1 a2 a3 a4 a5 a6 a7 a8 a9 a10 a11 a12 a13 a14 a15 a16 a17 a18 a19 a20 : Int) (a21 a22 : ByteArray) (l23 : List S54) (l24 : List S50) (h : l24.length ≤ 70) : ∀ (d i k : Nat), d + i = l24.length → ∃ b, corebankref38_Great.l0 (k + 2 * d + 1) i a0 a1 a2 a3 a4 a5 a6 a7 a8 a9 a10 a11 a12 a13 a14 a15 a16 a17 a18 a19 a20 a21 a22 l23 l24 = some b
  | 0, i, k, hd => by
    refine ⟨false, ?_⟩
    simp only [corebankref38_Great.l0]
    rw [if_neg (by omega)]
  | d + 1, i, k, hd => by
    rw [show k + 2 * (d + 1) + 1 = (k + 2 * d + 1) + 1 + 1 by omega]
    obtain ⟨b, hb⟩ := great_l0 a0 a1 a2 a3 a4 a5 a6 a7 a8 a9 a10 a11 a12 a13 a14 a15 a16 a17 a18 a19 a20 a21 a22 l23 l24 h d (i + 1) k (by omega)
    obtain ⟨m, hm⟩ : ∃ m, m = k + 2 * d + 1 := ⟨_, rfl⟩
    rw [← hm] at hb ⊢
    simp only [corebankref38_Great.l0]
    rw [if_pos (by omega), if_pos (by omega)]
    have e2 : wrap64 ((i : Int) + 1) = ((i + 1 : Nat) : Int) := by unfold wrap64; omega
    have hj : ∀ c : Bool, ∃ b, corebankref38_Great.j2 (m + 1) i c a0 a1 a2 a3 a4 a5 a6 a7 a8 a9 a10 a11 a12 a13 a14 a15 a16 a17 a18 a19 a20 a21 a22 l23 l24 = some b := by
      intro c
      simp only [corebankref38_Great.j2]
      cases c with
      | true => exact ⟨true, rfl⟩
      | false => rw [e2]; exact ⟨b, by rw [if_neg (by decide)]; exact hb⟩
    split
    · exact hj _
    · exact hj _
theorem great_eq (a0 a1 a2 a3 a4 a5 a6 a7 a8 a9 a10 a11 a12 a13 a14 a15 a16 a17 a18 a19 a20 : Int) (a21 a22 : ByteArray) (l23 : List S54) (l24 : List S50) (k : Nat) : ∃ b, corebankref38_Great.f (k + 700) a0 a1 a2 a3 a4 a5 a6 a7 a8 a9 a10 a11 a12 a13 a14 a15 a16 a17 a18 a19 a20 a21 a22 l23 l24 = some b ∧ (b = false → l23.length ≤ 260) := by
  unfold corebankref38_Great.f
  have hbig : corebankref38_Great.j0 (k + 700) true a0 a1 a2 a3 a4 a5 a6 a7 a8 a9 a10 a11 a12 a13 a14 a15 a16 a17 a18 a19 a20 a21 a22 l23 l24 = some true := by
    rw [show k + 700 = (k + 699) + 1 by omega]; simp only [corebankref38_Great.j0, if_true]
  by_cases c0 : (l23.length : Int) > 260
  · rw [if_pos c0]; exact ⟨true, hbig, fun h => by cases h⟩
  · rw [if_neg c0]
    by_cases c1 : (l24.length : Int) > 70
    · rw [if_pos c1]; exact ⟨true, hbig, fun h => by cases h⟩
    · rw [if_neg c1]
      by_cases c2 : (a21.size : Int) > 100
      · rw [if_pos c2]; exact ⟨true, hbig, fun h => by cases h⟩
      · rw [if_neg c2]
        rw [show k + 700 = (k + 699) + 1 by omega]
        simp only [corebankref38_Great.j0]
        by_cases c3 : (a22.size : Int) > 100
        · rw [decide_eq_true c3, if_pos rfl]; exact ⟨true, rfl, fun h => by cases h⟩
        · rw [decide_eq_false c3, if_neg (by decide)]
          obtain ⟨b, hb⟩ := great_l0 a0 a1 a2 a3 a4 a5 a6 a7 a8 a9 a10 a11 a12 a13 a14 a15 a16 a17 a18 a19 a20 a21 a22 l23 l24 (by omega) l24.length 0 (k + (698 - 2 * l24.length)) (by omega)
          rw [show k + (698 - 2 * l24.length) + 2 * l24.length + 1 = k + 699 by omega] at hb
          exact ⟨b, hb, fun _ => by omega⟩
theorem live_at (k : Nat) : corebanklaw38_Live.f (k + 40) = some true :=
  at_rounds (g := corebanklaw38_Live.f) corebanklaw38_Live.mono (by omega) corebanklaw38_Live.f_true
def sumP : List S54 → Int → Int
  | [], s => s
  | d :: t, s => sumP t (wrap64 (s + d.f2))
theorem sums_l0 (l : List S54) (hl : l.length ≤ 1000000) : ∀ (d i k : Nat) (p q : Int), d + i = l.length → ∃ z, loan_sums.l0 (k + d + 1) p q l l.length i = some (sumP (l.drop i) p, z)
  | 0, i, k, p, q, hd => by
    refine ⟨q, ?_⟩
    simp only [loan_sums.l0]
    rw [if_neg (by omega), List.drop_eq_nil_of_le (by omega)]; rfl
  | d + 1, i, k, p, q, hd => by
    rw [show k + (d + 1) + 1 = (k + d + 1) + 1 by omega]
    obtain ⟨m, hm⟩ : ∃ m, m = k + d + 1 := ⟨_, rfl⟩
    rw [← hm]
    have e2 : wrap64 ((i : Int) + 1) = ((i + 1 : Nat) : Int) := by unfold wrap64; omega
    simp only [loan_sums.l0]
    rw [if_pos (by omega), if_pos (by omega), if_pos (by omega), drop54 l i (by omega), e2, hm]
    exact sums_l0 l hl d (i + 1) k _ _ (by omega)
theorem principal_l0 (a0 a1 a2 a3 a4 a5 a6 a7 a8 a9 a10 a11 a12 a13 a14 a15 a16 a17 a18 a19 a20 : Int) (a21 a22 : ByteArray) (l23 : List S54) (l24 : List S50) (hl : l23.length ≤ 1000000) (hw : ∀ x ∈ l23, x.f1 ≤ 9223372036854775807) : ∀ (d i k : Nat) (p : Int), d + i = l23.length →
    corebankref34_Principal.l0 (k + d + 1) 9223372036854775807 p i a0 a1 a2 a3 a4 a5 a6 a7 a8 a9 a10 a11 a12 a13 a14 a15 a16 a17 a18 a19 a20 a21 a22 l23 l24 = some (sumP (l23.drop i) p)
  | 0, i, k, p, hd => by
    simp only [corebankref34_Principal.l0]
    rw [if_neg (by omega), List.drop_eq_nil_of_le (by omega)]; rfl
  | d + 1, i, k, p, hd => by
    rw [show k + (d + 1) + 1 = (k + d + 1) + 1 by omega]
    obtain ⟨m, hm⟩ : ∃ m, m = k + d + 1 := ⟨_, rfl⟩
    rw [← hm]
    have e2 : wrap64 ((i : Int) + 1) = ((i + 1 : Nat) : Int) := by unfold wrap64; omega
    have hd2 := drop54 l23 i (by omega)
    have hx : (rd_T54 l23 (i : Int)).f1 ≤ 9223372036854775807 := hw _ (List.mem_of_mem_drop (by rw [hd2]; exact List.mem_cons_self))
    simp only [corebankref34_Principal.l0]
    rw [if_pos (by omega), if_pos (by omega), if_pos hx, hd2, e2, hm]
    exact principal_l0 a0 a1 a2 a3 a4 a5 a6 a7 a8 a9 a10 a11 a12 a13 a14 a15 a16 a17 a18 a19 a20 a21 a22 l23 l24 hl hw d (i + 1) k _ (by omega)
theorem pout_eq (a0 a1 a2 a3 a4 a5 a6 a7 a8 a9 a10 a11 a12 a13 a14 a15 a16 a17 a18 a19 a20 : Int) (a21 a22 : ByteArray) (l23 : List S54) (l24 : List S50) (k : Nat) (hl : l23.length ≤ 300) : loan_Outstanding.f (k + 700) a0 a1 a2 a3 a4 a5 a6 a7 a8 a9 a10 a11 a12 a13 a14 a15 a16 a17 a18 a19 a20 a21 a22 l23 l24 = some (wrap64 (sumP l23 0 - a3)) := by
  unfold loan_Outstanding.f loan_sums.f
  obtain ⟨z, h⟩ := sums_l0 l23 (by omega) l23.length 0 (k + (699 - l23.length)) 0 0 (by omega)
  rw [show k + (699 - l23.length) + l23.length + 1 = k + 700 by omega] at h
  rw [show ((0 : Nat) : Int) = 0 from rfl] at h
  rw [h]; rfl
theorem rout_eq (a0 a1 a2 a3 a4 a5 a6 a7 a8 a9 a10 a11 a12 a13 a14 a15 a16 a17 a18 a19 a20 : Int) (a21 a22 : ByteArray) (l23 : List S54) (l24 : List S50) (k : Nat) (hl : l23.length ≤ 300) (hw : ∀ x ∈ l23, x.f1 ≤ 9223372036854775807) : corebankref34_Outstanding.f (k + 700) a0 a1 a2 a3 a4 a5 a6 a7 a8 a9 a10 a11 a12 a13 a14 a15 a16 a17 a18 a19 a20 a21 a22 l23 l24 = some (wrap64 (sumP l23 0 - a3)) := by
  unfold corebankref34_Outstanding.f corebankref34_Principal.f
  have h := principal_l0 a0 a1 a2 a3 a4 a5 a6 a7 a8 a9 a10 a11 a12 a13 a14 a15 a16 a17 a18 a19 a20 a21 a22 l23 l24 (by omega) hw l23.length 0 (k + (699 - l23.length)) 0 (by omega)
  rw [show k + (699 - l23.length) + l23.length + 1 = k + 700 by omega] at h
  rw [show ((0 : Nat) : Int) = 0 from rfl] at h
  rw [h]; rfl
/-- The provision that a loan needs. -/
def expR (x : S27) (day : Int) : Int × Int := pctR (wrap64 (sumP x.f12 0 - x.f3)) (rateR (stR x.f2 (daysS x.f3 x.f4 day x.f12 0 0))) 2
theorem pexp_eq (x : S27) (day : Int) (k : Nat) (hl : x.f12.length ≤ 300) : provision_Expected.f (k + 700) x.f0 x.f1 x.f2 x.f3 x.f4 x.f5 x.f6 x.f7 x.f8 x.f9 x.f10 x.f11.f0 x.f11.f1 x.f11.f2 x.f11.f3 x.f11.f4 x.f11.f5 x.f11.f6 x.f11.f7 x.f11.f8 x.f11.f9 x.f11.f10 x.f11.f11 x.f12 x.f13 day = some (expR x day) := by
  unfold provision_Expected.f
  rw [pout_eq _ _ _ _ _ _ _ _ _ _ _ _ _ _ _ _ _ _ _ _ _ _ _ _ _ _ hl, pstage_eq _ _ _ _ _ _ _ _ _ _ _ _ _ _ _ _ _ _ _ _ _ _ _ _ _ _ _ hl]
  simp only [Option.bind_some, prate_eq]
  rfl
theorem rexp_eq (x : S27) (day : Int) (k : Nat) (hl : x.f12.length ≤ 300) (hw : ∀ d ∈ x.f12, d.f1 ≤ 9223372036854775807) : corebankref38_Expected.f (k + 700) x.f0 x.f1 x.f2 x.f3 x.f4 x.f5 x.f6 x.f7 x.f8 x.f9 x.f10 x.f11.f0 x.f11.f1 x.f11.f2 x.f11.f3 x.f11.f4 x.f11.f5 x.f11.f6 x.f11.f7 x.f11.f8 x.f11.f9 x.f11.f10 x.f11.f11 x.f12 x.f13 day = some (expR x day) := by
  unfold corebankref38_Expected.f
  rw [rout_eq _ _ _ _ _ _ _ _ _ _ _ _ _ _ _ _ _ _ _ _ _ _ _ _ _ _ hl hw, rstage_eq _ _ _ _ _ _ _ _ _ _ _ _ _ _ _ _ _ _ _ _ _ _ _ _ _ _ _ hl]
  simp only [Option.bind_some, rrate_eq]
  rfl
set_option maxRecDepth 100000 in
theorem rgood_eq (a : Int) : corebankref02_Good.f a = some (decide (-1000000000000 ≤ a ∧ a ≤ 1000000000000)) := by
  unfold corebankref02_Good.f
  split
  · congr 1; apply decide_eq_decide.mpr; omega
  · rw [decide_eq_false (by omega)]
theorem day_le {x : S54} (h : W54 x) : x.f1 ≤ 9223372036854775807 := by
  have := h.2.1
  simp [Lit.wf, IntKind.min, IntKind.max, IntKind.bits, IntKind.signed] at this
  exact this.2
theorem great_eq2 (a0 a1 a2 a3 a4 a5 a6 a7 a8 a9 a10 a11 a12 a13 a14 a15 a16 a17 a18 a19 a20 : Int) (a21 a22 : ByteArray) (l23 : List S54) (l24 : List S50) (k : Nat) (h : corebankref38_Great.f (k + 700) a0 a1 a2 a3 a4 a5 a6 a7 a8 a9 a10 a11 a12 a13 a14 a15 a16 a17 a18 a19 a20 a21 a22 l23 l24 = some false) : l23.length ≤ 260 ∧ l24.length ≤ 70 := by
  have hbig : corebankref38_Great.j0 (k + 700) true a0 a1 a2 a3 a4 a5 a6 a7 a8 a9 a10 a11 a12 a13 a14 a15 a16 a17 a18 a19 a20 a21 a22 l23 l24 = some true := by
    rw [show k + 700 = (k + 699) + 1 by omega]; simp only [corebankref38_Great.j0, if_true]
  unfold corebankref38_Great.f at h
  by_cases c0 : (l23.length : Int) > 260
  · rw [if_pos c0, hbig] at h; cases h
  · rw [if_neg c0] at h
    by_cases c1 : (l24.length : Int) > 70
    · rw [if_pos c1, hbig] at h; cases h
    · exact ⟨by omega, by omega⟩
/-- What a move answers. -/
def moveT (x : S27) (day : Int) : Int × Int × Int × Int × Int × Int × Int × Int × Int × Int × Int × Int × Int × Int × Int × Int × Int × Int × Int × Int × Int × ByteArray × ByteArray × (List (S54)) × (List (S50)) × Int × Int :=
  if x.f8 < 0 ∨ x.f8 > 1000000000000 then (0, 0, 0, 0, 0, 0, 0, 0, 0, 0, 0, 0, 0, 0, 0, 0, 0, 0, 0, 0, 0, (⟨#[]⟩ : ByteArray), (⟨#[]⟩ : ByteArray), ([] : List (S54)), ([] : List (S50)), 0, 1) else if (expR x day).2 = 0 then (x.f0, x.f1, x.f2, x.f3, x.f4, x.f5, x.f6, x.f7, (expR x day).1, x.f9, x.f10, x.f11.f0, x.f11.f1, x.f11.f2, x.f11.f3, x.f11.f4, x.f11.f5, x.f11.f6, x.f11.f7, x.f11.f8, x.f11.f9, x.f11.f10, x.f11.f11, x.f12, x.f13, wrap64 ((expR x day).1 - x.f8), 0) else (0, 0, 0, 0, 0, 0, 0, 0, 0, 0, 0, 0, 0, 0, 0, 0, 0, 0, 0, 0, 0, (⟨#[]⟩ : ByteArray), (⟨#[]⟩ : ByteArray), ([] : List (S54)), ([] : List (S50)), 0, (expR x day).2)
theorem moneyv_eq (a : Int) : money_Valid.f a = some (decide (-1000000000000 ≤ a ∧ a ≤ 1000000000000)) := by
  unfold money_Valid.f
  split
  · congr 1; apply decide_eq_decide.mpr; omega
  · rw [decide_eq_false (by omega)]
theorem clone54 (l : List S54) (h : l.length ≤ 300) : api_Due.f l = some l := by
  unfold api_Due.f
  simp only [Option.bind_some, List.length_nil, List.nil_append]
  rw [if_pos (by omega)]
theorem clone50 (l : List S50) (h : l.length ≤ 300) : api_Change.f l = some l := by
  unfold api_Change.f
  simp only [Option.bind_some, List.length_nil, List.nil_append]
  rw [if_pos (by omega)]
theorem pmove_eq (x : S27) (day : Int) (k : Nat) (hl : x.f12.length ≤ 300) (hc : x.f13.length ≤ 300) : provision_Move.f (k + 701) x.f0 x.f1 x.f2 x.f3 x.f4 x.f5 x.f6 x.f7 x.f8 x.f9 x.f10 x.f11.f0 x.f11.f1 x.f11.f2 x.f11.f3 x.f11.f4 x.f11.f5 x.f11.f6 x.f11.f7 x.f11.f8 x.f11.f9 x.f11.f10 x.f11.f11 x.f12 x.f13 day = some (moveT x day) := by
  unfold provision_Move.f moveT
  rw [show k + 701 = (k + 700) + 1 by omega]
  have he := pexp_eq x day k hl
  obtain ⟨m, hm⟩ : ∃ m, m = k + 700 := ⟨_, rfl⟩
  rw [← hm] at he ⊢
  simp only [provision_Move.j0, moneyv_eq, Option.bind_some, he, clone54 _ hl, clone50 _ hc]
  by_cases c0 : x.f8 < 0
  · rw [if_pos c0, if_pos (Or.inl c0)]; rfl
  · rw [if_neg c0]
    by_cases c1 : x.f8 > 1000000000000
    · rw [if_pos (Or.inr c1), decide_eq_false (by omega)]; rfl
    · rw [if_neg (show ¬(x.f8 < 0 ∨ x.f8 > 1000000000000) by omega), decide_eq_true (show -1000000000000 ≤ x.f8 ∧ x.f8 ≤ 1000000000000 by omega), if_neg (by decide)]
      split <;> rfl
theorem rmove_eq (x : S27) (day : Int) (k : Nat) (hl : x.f12.length ≤ 300) (hw : ∀ d ∈ x.f12, d.f1 ≤ 9223372036854775807) : corebankref38_Move.f (k + 701) x.f0 x.f1 x.f2 x.f3 x.f4 x.f5 x.f6 x.f7 x.f8 x.f9 x.f10 x.f11.f0 x.f11.f1 x.f11.f2 x.f11.f3 x.f11.f4 x.f11.f5 x.f11.f6 x.f11.f7 x.f11.f8 x.f11.f9 x.f11.f10 x.f11.f11 x.f12 x.f13 day = some (moveT x day) := by
  unfold corebankref38_Move.f moveT
  rw [show k + 701 = (k + 700) + 1 by omega]
  have he := rexp_eq x day k hl hw
  obtain ⟨m, hm⟩ : ∃ m, m = k + 700 := ⟨_, rfl⟩
  rw [← hm] at he ⊢
  simp only [corebankref38_Move.j0, Option.bind_some, he]
  by_cases c0 : x.f8 < 0
  · rw [if_pos c0, if_pos (Or.inl c0)]; rfl
  · rw [if_neg c0]
    by_cases c1 : x.f8 > 1000000000000
    · rw [if_pos (Or.inr c1), decide_eq_true (by omega)]; rfl
    · rw [if_neg (show ¬(x.f8 < 0 ∨ x.f8 > 1000000000000) by omega), decide_eq_false (show ¬ x.f8 > 1000000000000 by omega), if_neg (by decide)]
      split <;> rfl
theorem sameDues_l0 (l : List S54) (hl : l.length ≤ 1000000) : ∀ (d i k : Nat), d + i = l.length → corebankref34_SameDues.l0 (k + d + 1) l l i = some true
  | 0, i, k, hd => by
    simp only [corebankref34_SameDues.l0]
    rw [if_neg (by omega)]
  | d + 1, i, k, hd => by
    rw [show k + (d + 1) + 1 = (k + d + 1) + 1 by omega]
    have ih := sameDues_l0 l hl d (i + 1) k (by omega)
    obtain ⟨m, hm⟩ : ∃ m, m = k + d + 1 := ⟨_, rfl⟩
    rw [← hm] at ih ⊢
    have e2 : wrap64 ((i : Int) + 1) = ((i + 1 : Nat) : Int) := by unfold wrap64; omega
    simp only [corebankref34_SameDues.l0]
    rw [if_pos (by omega), if_pos (by omega), if_pos (by omega), e2, if_neg (by simp)]
    exact ih
theorem sameChanges_l0 (l : List S50) (hl : l.length ≤ 1000000) : ∀ (d i k : Nat), d + i = l.length → corebankref34_sameChanges.l0 (k + d + 1) l l i = some true
  | 0, i, k, hd => by
    simp only [corebankref34_sameChanges.l0]
    rw [if_neg (by omega)]
  | d + 1, i, k, hd => by
    rw [show k + (d + 1) + 1 = (k + d + 1) + 1 by omega]
    have ih := sameChanges_l0 l hl d (i + 1) k (by omega)
    obtain ⟨m, hm⟩ : ∃ m, m = k + d + 1 := ⟨_, rfl⟩
    rw [← hm] at ih ⊢
    have e2 : wrap64 ((i : Int) + 1) = ((i + 1 : Nat) : Int) := by unfold wrap64; omega
    simp only [corebankref34_sameChanges.l0]
    rw [if_pos (by omega), if_pos (by omega), if_pos (by omega), e2, if_neg (by simp)]
    exact ih
theorem same_self (a0 a1 a2 a3 a4 a5 a6 a7 a8 a9 a10 a11 a12 a13 a14 a15 a16 a17 a18 a19 a20 : Int) (a21 a22 : ByteArray) (l23 : List S54) (l24 : List S50) (k : Nat) (hl : l23.length ≤ 300) (hc : l24.length ≤ 300) : corebankref34_Same.f (k + 700) a0 a1 a2 a3 a4 a5 a6 a7 a8 a9 a10 a11 a12 a13 a14 a15 a16 a17 a18 a19 a20 a21 a22 l23 l24 a0 a1 a2 a3 a4 a5 a6 a7 a8 a9 a10 a11 a12 a13 a14 a15 a16 a17 a18 a19 a20 a21 a22 l23 l24 = some true := by
  unfold corebankref34_Same.f corebankref34_SameDues.f corebankref34_sameChanges.f
  have h1 := sameDues_l0 l23 (by omega) l23.length 0 (k + (699 - l23.length)) (by omega)
  have h2 := sameChanges_l0 l24 (by omega) l24.length 0 (k + (699 - l24.length)) (by omega)
  rw [show k + (699 - l23.length) + l23.length + 1 = k + 700 by omega, show ((0 : Nat) : Int) = 0 from rfl] at h1
  rw [show k + (699 - l24.length) + l24.length + 1 = k + 700 by omega, show ((0 : Nat) : Int) = 0 from rfl] at h2
  rw [h1, h2]
  simp
theorem moveT_len (x : S27) (day : Int) (hl : x.f12.length ≤ 300) (hc : x.f13.length ≤ 300) : (moveT x day).2.2.2.2.2.2.2.2.2.2.2.2.2.2.2.2.2.2.2.2.2.2.2.1.length ≤ 300 ∧ (moveT x day).2.2.2.2.2.2.2.2.2.2.2.2.2.2.2.2.2.2.2.2.2.2.2.2.1.length ≤ 300 := by
  unfold moveT
  split
  · exact ⟨by simp, by simp⟩
  · split
    · exact ⟨hl, hc⟩
    · exact ⟨by simp, by simp⟩
theorem ProvisionExpects_pure (x : S27) (a1 : Int) (g : W27 x) : ∃ k, corebanklaw38_ProvisionExpects.f k x.f0 x.f1 x.f2 x.f3 x.f4 x.f5 x.f6 x.f7 x.f8 x.f9 x.f10 x.f11.f0 x.f11.f1 x.f11.f2 x.f11.f3 x.f11.f4 x.f11.f5 x.f11.f6 x.f11.f7 x.f11.f8 x.f11.f9 x.f11.f10 x.f11.f11 x.f12 x.f13 a1 = some true := by
  refine ⟨701, ?_⟩
  unfold corebanklaw38_ProvisionExpects.f
  obtain ⟨b, hb, hl⟩ := great_eq x.f0 x.f1 x.f2 x.f3 x.f4 x.f5 x.f6 x.f7 x.f8 x.f9 x.f10 x.f11.f0 x.f11.f1 x.f11.f2 x.f11.f3 x.f11.f4 x.f11.f5 x.f11.f6 x.f11.f7 x.f11.f8 x.f11.f9 x.f11.f10 x.f11.f11 x.f12 x.f13 1
  rw [show 1 + 700 = 701 from rfl] at hb
  have hL := live_at 661
  rw [show 661 + 40 = 701 from rfl] at hL
  cases b with
  | true => rw [hb, hL]; simp only [Option.bind_some, if_true]
  | false =>
    have hg := great_eq2 x.f0 x.f1 x.f2 x.f3 x.f4 x.f5 x.f6 x.f7 x.f8 x.f9 x.f10 x.f11.f0 x.f11.f1 x.f11.f2 x.f11.f3 x.f11.f4 x.f11.f5 x.f11.f6 x.f11.f7 x.f11.f8 x.f11.f9 x.f11.f10 x.f11.f11 x.f12 x.f13 1 hb
    have hw : ∀ d ∈ x.f12, d.f1 ≤ 9223372036854775807 := fun d hd => day_le (g.2.2.2.2.2.2.2.2.2.2.2.2.1 d hd)
    have h1 := pexp_eq x a1 1 (by omega)
    have h2 := rexp_eq x a1 1 (by omega) hw
    have h3 := pmove_eq x a1 0 (by omega) (by omega)
    have h4 := rmove_eq x a1 0 (by omega) hw
    rw [show 1 + 700 = 701 from rfl] at h1 h2
    rw [show 0 + 701 = 701 from rfl] at h3 h4
    have hs := moveT_len x a1 (by omega) (by omega)
    rw [hb, hL, h1, h2, h3, h4]
    simp only [Option.bind_some]
    generalize moveT x a1 = m at hs
    have h5 := same_self m.1 m.2.1 m.2.2.1 m.2.2.2.1 m.2.2.2.2.1 m.2.2.2.2.2.1 m.2.2.2.2.2.2.1 m.2.2.2.2.2.2.2.1 m.2.2.2.2.2.2.2.2.1 m.2.2.2.2.2.2.2.2.2.1 m.2.2.2.2.2.2.2.2.2.2.1 m.2.2.2.2.2.2.2.2.2.2.2.1 m.2.2.2.2.2.2.2.2.2.2.2.2.1 m.2.2.2.2.2.2.2.2.2.2.2.2.2.1 m.2.2.2.2.2.2.2.2.2.2.2.2.2.2.1 m.2.2.2.2.2.2.2.2.2.2.2.2.2.2.2.1 m.2.2.2.2.2.2.2.2.2.2.2.2.2.2.2.2.1 m.2.2.2.2.2.2.2.2.2.2.2.2.2.2.2.2.2.1 m.2.2.2.2.2.2.2.2.2.2.2.2.2.2.2.2.2.2.1 m.2.2.2.2.2.2.2.2.2.2.2.2.2.2.2.2.2.2.2.1 m.2.2.2.2.2.2.2.2.2.2.2.2.2.2.2.2.2.2.2.2.1 m.2.2.2.2.2.2.2.2.2.2.2.2.2.2.2.2.2.2.2.2.2.1 m.2.2.2.2.2.2.2.2.2.2.2.2.2.2.2.2.2.2.2.2.2.2.1 m.2.2.2.2.2.2.2.2.2.2.2.2.2.2.2.2.2.2.2.2.2.2.2.1 m.2.2.2.2.2.2.2.2.2.2.2.2.2.2.2.2.2.2.2.2.2.2.2.2.1 1 hs.1 hs.2
    rw [show 1 + 700 = 701 from rfl] at h5
    rw [h5]
    simp only [Option.bind_some, if_true]
    simp
end Go.Proofs.YtjkjiibhdpcpkaaDoor.PureProvisionExpects
end
