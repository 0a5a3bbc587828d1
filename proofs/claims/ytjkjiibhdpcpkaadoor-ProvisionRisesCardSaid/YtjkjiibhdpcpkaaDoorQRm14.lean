import Derived.Deep.Slices
import Derived.Lib.SmallJoins
import Derived.Test.YtjkjiibhdpcpkaaDoorQRm13
section
namespace Go.Proofs.YtjkjiibhdpcpkaaDoor.PureProvisionRises
open Go.RowKit Go.Proofs.YtjkjiibhdpcpkaaDoor.PS Go.Proofs.YtjkjiibhdpcpkaaDoorW.PrintWords Go.Proofs.YtjkjiibhdpcpkaaDoorW.PrintLast
set_option linter.unusedVariables false
set_option linter.unusedSimpArgs false
open Go.ChangeShapes Go.WideShapes Go.ChangeAt Go.Joins
/-- What data of type t reads as, read as a value of the kind d. -/
def Rd {α : Type} (d : Kd α) (t : TypeId) (G : α → Prop) : Prop :=
  ∀ {H : Type} (enc : TypeId × Value → H) (w : World) (base : Nat) (spare : Nat → Bool) (held : Bool) (fuel : Nat) (cs : List Value) (x : DataW H × List MemPlace),
    DataW.trod enc Tryd.prog w base spare held fuel t cs = some x → ∃ y, d.K w y cs ∧ G y
theorem Rd_int {t : TypeId} {k : IntKind} (ht : Tryd.prog.underlying t = some (.int k)) : Rd (Kd.int k) t (fun n => (Lit.int k n).wf = true) := by
  intro H enc w base spare held fuel cs x h
  obtain ⟨n, rfl, _, hw⟩ := DataW.trod_int ht h
  exact ⟨n, rfl, hw⟩
theorem Rd_string {t : TypeId} (ht : Tryd.prog.underlying t = some .string) : Rd Kd.string t (fun s => s.size ≤ maxLen) := by
  intro H enc w base spare held fuel cs x h
  obtain ⟨s, rfl, _, hw⟩ := DataW.trod_string ht h
  exact ⟨s, rfl, hw⟩
/-- The fields from a place on. -/
def RdF {α : Type} (d : Kd α) (fs : List Field) (off tot : Nat) (G : α → Prop) : Prop :=
  ∀ {H : Type} (enc : TypeId × Value → H) (w : World) (base : Nat) (spare : Nat → Bool) (held : Bool) (cs : List Value), cs.length = tot →
    (∀ f ∈ fs, ∃ n y, DataW.trod enc Tryd.prog w base spare held n f.type ((cs.drop f.offset).take (Tryd.prog.cellsOf f.type)) = some y) → ∃ y, d.K w y (cs.drop off) ∧ G y
theorem RdF_one {α : Type} {d : Kd α} {G : α → Prop} {f : Field} {tot : Nat} (h : Rd d f.type G) (hc : f.offset + Tryd.prog.cellsOf f.type = tot) : RdF d [f] f.offset tot G := by
  intro H enc w base spare held cs hl hf
  obtain ⟨n, y, hy⟩ := hf f List.mem_cons_self
  rw [List.take_of_length_le (by rw [List.length_drop]; omega)] at hy
  exact h enc w base spare held n _ _ hy
theorem RdF_cons {α β : Type} {d : Kd α} {d' : Kd β} {G : α → Prop} {G' : β → Prop} {f : Field} {fs : List Field} {off tot : Nat} (h : Rd d f.type G) (h' : RdF d' fs off tot G') (hc : f.offset + Tryd.prog.cellsOf f.type = off) :
    RdF (Kd.pair d d') (f :: fs) f.offset tot (fun p => G p.1 ∧ G' p.2) := by
  intro H enc w base spare held cs hl hf
  obtain ⟨n, y, hy⟩ := hf f List.mem_cons_self
  obtain ⟨a, ha, ga⟩ := h enc w base spare held n _ _ hy
  obtain ⟨b, hb, gb⟩ := h' enc w base spare held cs hl (fun g hg => hf g (List.mem_cons_of_mem _ hg))
  refine ⟨(a, b), ⟨_, _, ?_, ha, hb⟩, ga, gb⟩
  rw [← hc, ← List.drop_drop, List.take_append_drop]
theorem Rd_struct {α β : Type} {d : Kd β} {G : β → Prop} {t : TypeId} {fs : Array Field} {f : α → β} (g : β → α) (he : Tryd.prog.underlying t = some (.struct fs)) (h : RdF d fs.toList 0 (Tryd.prog.cellsOf t) G) (hg : ∀ y, f (g y) = y) :
    Rd (Kd.iso d f) t (fun x => G (f x)) := by
  intro H enc w base spare held fuel cs x hx
  obtain ⟨xs, n, _, rfl, hl, hlen, hf⟩ := DataW.trod_struct he hx
  obtain ⟨y, hy, gy⟩ := h enc w base spare held cs hl (fun q hq => by
    obtain ⟨i, hi, rfl⟩ := List.getElem_of_mem hq
    have hi' : i < fs.size := by simpa using hi
    have e := hf i fs[i] (by simp [hi'])
    rw [List.getElem?_eq_getElem (by omega)] at e
    exact ⟨n, _, by simpa using e⟩)
  rw [List.drop_zero] at hy
  refine ⟨g y, ?_, ?_⟩
  · show d.K w (f (g y)) cs
    rw [hg]; exact hy
  · show G (f (g y))
    rw [hg]; exact gy
theorem Rd_slice {α : Type} [Inhabited α] {d : Kd α} {G : α → Prop} {t e : TypeId} (ht : Tryd.prog.underlying t = some (.slice e)) (hc : Tryd.prog.cellsOf e = d.sz) (h : Rd d e G) :
    Rd (Kd.slice e d) t (fun xs => ∀ x ∈ xs, G x) := by
  intro H enc w base spare held fuel cs x hx
  rcases Go.Deep.open_slice ht hx with ⟨rfl, _⟩ | ⟨a, len, cap, m, n, D, Pl, rfl, hb, hl, hm, hmm, _, hel⟩
  · exact ⟨[], ⟨none, 0, rfl, Nat.le_refl _, rfl, by simp, fun h => absurd h (Nat.lt_irrefl 0)⟩, by simp⟩
  · have hlm : len ≤ m := by rw [hmm]; split <;> omega
    have each : ∀ i, i < len → ∃ y : α, ∃ c, w.cells? base (a.add (i * Tryd.prog.cellsOf e)) (Tryd.prog.cellsOf e) = some c ∧ d.K w y c ∧ G y := by
      intro i hi
      obtain ⟨c, h1, h2⟩ := hel i (by omega)
      obtain ⟨y, hy, gy⟩ := h enc w base spare held n c _ h2
      exact ⟨y, c, h1, hy, gy⟩
    obtain ⟨q, hq⟩ := Go.Deep.choose_lt each
    have hlen : ((List.range len).map q).length = len := by simp
    refine ⟨(List.range len).map q, ⟨some a, cap, by rw [hlen], by rw [hlen]; exact hl, ?_⟩, ?_⟩
    · rw [hlen]
      refine ⟨hlen, by unfold maxLen at hm; omega, fun _ => ⟨a, rfl, ?_⟩⟩
      intro j p hj
      have hj' : j < len := by
        have := (List.getElem?_eq_some_iff.1 hj).1
        simpa using this
      have hp : q j = p := by
        rw [List.getElem?_map, List.getElem?_range hj'] at hj
        simpa using hj
      subst hp
      obtain ⟨c, h1, h2, _⟩ := hq j hj'
      obtain ⟨_, hcl, hcell⟩ := World.cells?_some h1
      refine ⟨c, by rw [hcl, hc], h2, ?_⟩
      intro i u hi
      have hil : i < c.length := (List.getElem?_eq_some_iff.1 hi).1
      have := hcell i (by omega)
      rw [Go.Deep.add_add] at this
      rw [hc] at this
      rw [this, hi]
    · intro x hx
      obtain ⟨j, hj, rfl⟩ := List.mem_map.1 hx
      exact (hq j (List.mem_range.1 hj)).choose_spec.2.2
def W23 (x : S23) : Prop := ((Lit.int .i64 x.f0).wf = true) ∧ ((Lit.int .i64 x.f1).wf = true) ∧ ((Lit.int .i64 x.f2).wf = true) ∧ ((Lit.int .i64 x.f3).wf = true) ∧ ((Lit.int .i64 x.f4).wf = true) ∧ ((Lit.int .i64 x.f5).wf = true) ∧ ((Lit.int .i64 x.f6).wf = true) ∧ ((Lit.int .i64 x.f7).wf = true) ∧ ((Lit.int .i64 x.f8).wf = true) ∧ ((Lit.int .i64 x.f9).wf = true) ∧ (x.f10.size ≤ maxLen) ∧ (x.f11.size ≤ maxLen)
instance : Inhabited S23 := ⟨⟨default, default, default, default, default, default, default, default, default, default, default, default⟩⟩
set_option maxRecDepth 100000 in
theorem rd23 : Rd k23 23 W23 := Rd_struct (fun y => ⟨y.1, y.2.1, y.2.2.1, y.2.2.2.1, y.2.2.2.2.1, y.2.2.2.2.2.1, y.2.2.2.2.2.2.1, y.2.2.2.2.2.2.2.1, y.2.2.2.2.2.2.2.2.1, y.2.2.2.2.2.2.2.2.2.1, y.2.2.2.2.2.2.2.2.2.2.1, y.2.2.2.2.2.2.2.2.2.2.2⟩) Tryd.underlying23 (RdF_cons (Rd_int Tryd.underlying3) (RdF_cons (Rd_int Tryd.underlying3) (RdF_cons (Rd_int Tryd.underlying3) (RdF_cons (Rd_int Tryd.underlying3) (RdF_cons (Rd_int Tryd.underlying3) (RdF_cons (Rd_int Tryd.underlying3) (RdF_cons (Rd_int Tryd.underlying3) (RdF_cons (Rd_int Tryd.underlying3) (RdF_cons (Rd_int Tryd.underlying3) (RdF_cons (Rd_int Tryd.underlying3) (RdF_cons (Rd_string Tryd.underlying9) (RdF_one (Rd_string Tryd.underlying9) (by kernel_rfl)) (by kernel_rfl)) (by kernel_rfl)) (by kernel_rfl)) (by kernel_rfl)) (by kernel_rfl)) (by kernel_rfl)) (by kernel_rfl)) (by kernel_rfl)) (by kernel_rfl)) (by kernel_rfl)) (by kernel_rfl)) (fun _ => rfl)
def W54 (x : S54) : Prop := ((Lit.int .i64 x.f0).wf = true) ∧ ((Lit.int .i64 x.f1).wf = true) ∧ ((Lit.int .i64 x.f2).wf = true) ∧ ((Lit.int .i64 x.f3).wf = true)
instance : Inhabited S54 := ⟨⟨default, default, default, default⟩⟩
set_option maxRecDepth 100000 in
theorem rd54 : Rd k54 54 W54 := Rd_struct (fun y => ⟨y.1, y.2.1, y.2.2.1, y.2.2.2⟩) Tryd.underlying54 (RdF_cons (Rd_int Tryd.underlying3) (RdF_cons (Rd_int Tryd.underlying3) (RdF_cons (Rd_int Tryd.underlying3) (RdF_one (Rd_int Tryd.underlying3) (by kernel_rfl)) (by kernel_rfl)) (by kernel_rfl)) (by kernel_rfl)) (fun _ => rfl)
def W50 (x : S50) : Prop := ((Lit.int .i64 x.f0).wf = true) ∧ ((Lit.int .i64 x.f1).wf = true) ∧ (W23 x.f2)
instance : Inhabited S50 := ⟨⟨default, default, default⟩⟩
set_option maxRecDepth 100000 in
theorem rd50 : Rd k50 50 W50 := Rd_struct (fun y => ⟨y.1, y.2.1, y.2.2⟩) Tryd.underlying50 (RdF_cons (Rd_int Tryd.underlying3) (RdF_cons (Rd_int Tryd.underlying3) (RdF_one rd23 (by kernel_rfl)) (by kernel_rfl)) (by kernel_rfl)) (fun _ => rfl)
def W27 (x : S27) : Prop := ((Lit.int .i64 x.f0).wf = true) ∧ ((Lit.int .i64 x.f1).wf = true) ∧ ((Lit.int .i64 x.f2).wf = true) ∧ ((Lit.int .i64 x.f3).wf = true) ∧ ((Lit.int .i64 x.f4).wf = true) ∧ ((Lit.int .i64 x.f5).wf = true) ∧ ((Lit.int .i64 x.f6).wf = true) ∧ ((Lit.int .i64 x.f7).wf = true) ∧ ((Lit.int .i64 x.f8).wf = true) ∧ ((Lit.int .i64 x.f9).wf = true) ∧ ((Lit.int .i64 x.f10).wf = true) ∧ (W23 x.f11) ∧ (∀ y ∈ x.f12, W54 y) ∧ (∀ y ∈ x.f13, W50 y)
instance : Inhabited S27 := ⟨⟨default, default, default, default, default, default, default, default, default, default, default, default, default, default⟩⟩
set_option maxRecDepth 100000 in
theorem rd27 : Rd k27 27 W27 := Rd_struct (fun y => ⟨y.1, y.2.1, y.2.2.1, y.2.2.2.1, y.2.2.2.2.1, y.2.2.2.2.2.1, y.2.2.2.2.2.2.1, y.2.2.2.2.2.2.2.1, y.2.2.2.2.2.2.2.2.1, y.2.2.2.2.2.2.2.2.2.1, y.2.2.2.2.2.2.2.2.2.2.1, y.2.2.2.2.2.2.2.2.2.2.2.1, y.2.2.2.2.2.2.2.2.2.2.2.2.1, y.2.2.2.2.2.2.2.2.2.2.2.2.2⟩) Tryd.underlying27 (RdF_cons (Rd_int Tryd.underlying3) (RdF_cons (Rd_int Tryd.underlying3) (RdF_cons (Rd_int Tryd.underlying3) (RdF_cons (Rd_int Tryd.underlying3) (RdF_cons (Rd_int Tryd.underlying3) (RdF_cons (Rd_int Tryd.underlying3) (RdF_cons (Rd_int Tryd.underlying3) (RdF_cons (Rd_int Tryd.underlying3) (RdF_cons (Rd_int Tryd.underlying3) (RdF_cons (Rd_int Tryd.underlying3) (RdF_cons (Rd_int Tryd.underlying3) (RdF_cons rd23 (RdF_cons (Rd_slice Tryd.underlying24 (by kernel_rfl) rd54) (RdF_one (Rd_slice Tryd.underlying25 (by kernel_rfl) rd50) (by kernel_rfl)) (by kernel_rfl)) (by kernel_rfl)) (by kernel_rfl)) (by kernel_rfl)) (by kernel_rfl)) (by kernel_rfl)) (by kernel_rfl)) (by kernel_rfl)) (by kernel_rfl)) (by kernel_rfl)) (by kernel_rfl)) (by kernel_rfl)) (by kernel_rfl)) (fun _ => rfl)
set_option maxRecDepth 100000 in
theorem open27 {H : Type} {enc : TypeId × Value → H} {W : World} {base : Nat} {spare : Nat → Bool} {held : Bool} {r : Reach} {b0 : Nat} {v : Value} {d : DataW H} {p : List MemPlace} (hv : Value.okWide Tryd.prog W r b0 27 v) (h : DataW.Trod enc Tryd.prog W base spare held 27 v d p) :
    ∃ (y : S27) (A23 : Option Addr) (c23 : Nat) (A24 : Option Addr) (c24 : Nat), v = .agg #[.int .i64 y.f0, .int .i64 y.f1, .int .i64 y.f2, .int .i64 y.f3, .int .i64 y.f4, .int .i64 y.f5, .int .i64 y.f6, .int .i64 y.f7, .int .i64 y.f8, .int .i64 y.f9, .int .i64 y.f10, .int .i64 y.f11.f0, .int .i64 y.f11.f1, .int .i64 y.f11.f2, .int .i64 y.f11.f3, .int .i64 y.f11.f4, .int .i64 y.f11.f5, .int .i64 y.f11.f6, .int .i64 y.f11.f7, .int .i64 y.f11.f8, .int .i64 y.f11.f9, .string y.f11.f10, .string y.f11.f11, .slice A23 y.f12.length c23, .slice A24 y.f13.length c24] ∧ y.f12.length ≤ c23 ∧ Kd.C k54 W A23 y.f12.length y.f12 ∧ y.f13.length ≤ c24 ∧ Kd.C k50 W A24 y.f13.length y.f13 ∧ W27 y := by
  obtain ⟨cs, rfl, hsz⟩ := okWide_struct Tryd.underlying27 hv
  obtain ⟨fu, hf⟩ := h
  obtain ⟨y, hk, gy⟩ := rd27 enc W base _ _ fu _ _ hf
  obtain ⟨A23, c23, A24, c24, hcs, q0, q1, q2, q3⟩ := k27_open hk
  refine ⟨y, A23, c23, A24, c24, ?_, q0, q1, q2, q3, gy⟩
  obtain ⟨l⟩ := cs
  have e : l = _ := hcs
  subst e
  rfl
theorem drop54 (l : List S54) (i : Nat) (h : i < l.length) : l.drop i = rd_T54 l (i : Int) :: l.drop (i + 1) := by
  rw [List.drop_eq_getElem_cons h]
  congr 1
  unfold rd_T54
  simp [List.getD_eq_getElem?_getD, h]
/-- The days of arrears. -/
def daysS (pp pi day : Int) : List S54 → Int → Int → Int
  | [], _, _ => 0
  | d :: t, p, i => if d.f1 ≤ day ∧ (pp < wrap64 (p + d.f2) ∨ pi < wrap64 (i + d.f3)) then wrap64 (day - d.f1) else daysS pp pi day t (wrap64 (p + d.f2)) (wrap64 (i + d.f3))
theorem daysS_yes (pp pi day p i : Int) (d : S54) (t : List S54) (h : d.f1 ≤ day ∧ (pp < wrap64 (p + d.f2) ∨ pi < wrap64 (i + d.f3))) : daysS pp pi day (d :: t) p i = wrap64 (day - d.f1) := by
  unfold daysS; rw [if_pos h]
theorem daysS_no (pp pi day p i : Int) (d : S54) (t : List S54) (h : ¬ (d.f1 ≤ day ∧ (pp < wrap64 (p + d.f2) ∨ pi < wrap64 (i + d.f3)))) : daysS pp pi day (d :: t) p i = daysS pp pi day t (wrap64 (p + d.f2)) (wrap64 (i + d.f3)) := by
  rw [daysS]; rw [if_neg h]
theorem arrears_Days_l0 (a0 a1 a2 a3 a4 a5 a6 a7 a8 a9 a10 a11 a12 a13 a14 a15 a16 a17 a18 a19 a20 : Int) (a21 a22 : ByteArray) (l23 : List S54) (l24 : List S50) (dy : Int) (hl : l23.length ≤ 1000000) : ∀ (d i k : Nat) (p q : Int), d + i = l23.length →
    arrears_Days.l0 (k + 2 * d + 1) dy p q l23 l23.length i a0 a1 a2 a3 a4 a5 a6 a7 a8 a9 a10 a11 a12 a13 a14 a15 a16 a17 a18 a19 a20 a21 a22 l23 l24 = some (daysS a3 a4 dy (l23.drop i) p q)
  | 0, i, k, p, q, hd => by
    simp only [arrears_Days.l0]
    rw [if_neg (by omega), List.drop_eq_nil_of_le (by omega)]; rfl
  | d + 1, i, k, p, q, hd => by
    rw [show k + 2 * (d + 1) + 1 = (k + 2 * d + 1) + 1 + 1 by omega]
    obtain ⟨m, hm⟩ : ∃ m, m = k + 2 * d + 1 := ⟨_, rfl⟩
    rw [← hm]
    have ih := fun p q => arrears_Days_l0 a0 a1 a2 a3 a4 a5 a6 a7 a8 a9 a10 a11 a12 a13 a14 a15 a16 a17 a18 a19 a20 a21 a22 l23 l24 dy hl d (i + 1) k p q (by omega)
    rw [← hm] at ih
    simp only [arrears_Days.l0]
    rw [if_pos (by omega), if_pos (by omega), if_pos (by omega), drop54 l23 i (by omega)]
    have e2 : wrap64 ((i : Int) + 1) = ((i + 1 : Nat) : Int) := by unfold wrap64; omega
    generalize rd_T54 l23 (i : Int) = x
    by_cases c1 : x.f1 ≤ dy
    · rw [if_pos c1]
      by_cases c2 : a3 < wrap64 (p + x.f2)
      · rw [if_pos c2, daysS_yes _ _ _ _ _ _ _ ⟨c1, Or.inl c2⟩]
        simp only [arrears_Days.j1, if_true]
      · rw [if_neg c2]
        by_cases c3 : a4 < wrap64 (q + x.f3)
        · rw [decide_eq_true c3, daysS_yes _ _ _ _ _ _ _ ⟨c1, Or.inr c3⟩]
          simp only [arrears_Days.j1, if_true]
        · rw [decide_eq_false c3, daysS_no _ _ _ _ _ _ _ (by rintro ⟨_, h | h⟩ <;> contradiction)]
          simp only [arrears_Days.j1]
          rw [if_neg (by decide), e2]
          exact ih _ _
    · rw [if_neg c1, daysS_no _ _ _ _ _ _ _ (fun h => c1 h.1)]
      simp only [arrears_Days.j1]
      rw [if_neg (by decide), e2]
      exact ih _ _
theorem arrears_Days_eq (a0 a1 a2 a3 a4 a5 a6 a7 a8 a9 a10 a11 a12 a13 a14 a15 a16 a17 a18 a19 a20 : Int) (a21 a22 : ByteArray) (l23 : List S54) (l24 : List S50) (dy : Int) (k : Nat) (hl : l23.length ≤ 300) : arrears_Days.f (k + 700) a0 a1 a2 a3 a4 a5 a6 a7 a8 a9 a10 a11 a12 a13 a14 a15 a16 a17 a18 a19 a20 a21 a22 l23 l24 dy = some (daysS a3 a4 dy l23 0 0) := by
  unfold arrears_Days.f
  have h := arrears_Days_l0 a0 a1 a2 a3 a4 a5 a6 a7 a8 a9 a10 a11 a12 a13 a14 a15 a16 a17 a18 a19 a20 a21 a22 l23 l24 dy (by omega) l23.length 0 (k + (699 - 2 * l23.length)) 0 0 (by omega)
  rw [show k + (699 - 2 * l23.length) + 2 * l23.length + 1 = k + 700 by omega] at h
  exact h
def stR (state d : Int) : Int := if state = 1 then (if d ≤ 30 then 1 else if d ≤ 90 then 2 else 3) else 0
def rateR (s : Int) : Int := if s = 1 then 10000 else if s = 2 then 100000 else if s = 3 then 450000 else 0
theorem prate_eq (s : Int) : provision_Rate.f s = some (rateR s) := rfl
theorem pstage_eq (a0 a1 a2 a3 a4 a5 a6 a7 a8 a9 a10 a11 a12 a13 a14 a15 a16 a17 a18 a19 a20 : Int) (a21 a22 : ByteArray) (l23 : List S54) (l24 : List S50) (dy : Int) (k : Nat) (hl : l23.length ≤ 300) : provision_Stage.f (k + 700) a0 a1 a2 a3 a4 a5 a6 a7 a8 a9 a10 a11 a12 a13 a14 a15 a16 a17 a18 a19 a20 a21 a22 l23 l24 dy = some (stR a2 (daysS a3 a4 dy l23 0 0)) := by
  unfold provision_Stage.f stR
  by_cases c : a2 = 1
  · rw [if_pos c, if_pos c, arrears_Days_eq _ _ _ _ _ _ _ _ _ _ _ _ _ _ _ _ _ _ _ _ _ _ _ _ _ _ _ hl]
    simp only [Option.bind_some]
    generalize daysS a3 a4 dy l23 0 0 = d
    unfold arrears_Bucket.f
    simp only [Option.bind_some]
    by_cases h0 : d ≤ 0
    · have e1 : d ≤ 30 := by omega
      (simp only [h0, e1, if_true] <;> rfl)
    · by_cases h1 : d ≤ 30
      · (simp only [h0, h1, if_true, if_false] <;> rfl)
      · by_cases h2 : d ≤ 60
        · have e1 : d ≤ 90 := by omega
          (simp only [h0, h1, h2, e1, if_true, if_false] <;> rfl)
        · by_cases h3 : d ≤ 90
          · (simp only [h0, h1, h2, h3, if_true, if_false] <;> rfl)
          · (simp only [h0, h1, h2, h3, if_false] <;> rfl)
  · rw [if_neg c, if_neg c]
theorem great_l0 (a0 a1 a2 a3 a4 a5 a6 a7 a8 a9 a10 a11 a12 a13 a14 a15 a16 a17 a18 a19 a20 : Int) (a21 a22 : ByteArray) (l23 : List S54) (l24 : List S50) (h : l24.length ≤ 70) : ∀ (d i k : Nat), d + i = l24.length → ∃ b, corebankref38_Great.l0 (k + 2 * d + 1) i a0 a1 a2 a3 a4 a5 a6 a7 a8 a9 a10 a11 a12 a13 a14 a15 a16 a17 a18 a19 a20 a21 a22 l23 l24 = some b
  | 0, i, k, hd => by
    refine ⟨false, ?_⟩
    simp only [corebankref38_Great.l0]
    rw [if_neg (by omega)]
  | d + 1, i, k, hd => by
    rw [show k + 2 * (d + 1) + 1 = (k + 2 * d + 1) + 1 + 1 by omega]
    obtain ⟨b, hb⟩ := great_l0 a0 a1 a2 a3 a4 a5 a6 a7 a8 a9 a10 a11 a12 a13 a14 a15 a16 a17 a18 a19 a20 a21 a22 l23 l24 h d (i + 1) k (by omega)
    obtain ⟨m, hm⟩ : ∃ m, m = k + 2 * d + 1 := ⟨_, rfl⟩
    rw [← hm] at hb ⊢
    simp only [corebankref38_Great.l0]
    rw [if_pos (by omega), if_pos (by omega)]
    have e2 : wrap64 ((i : Int) + 1) = ((i + 1 : Nat) : Int) := by unfold wrap64; omega
    have hj : ∀ c : Bool, ∃ b, corebankref38_Great.j2 (m + 1) i c a0 a1 a2 a3 a4 a5 a6 a7 a8 a9 a10 a11 a12 a13 a14 a15 a16 a17 a18 a19 a20 a21 a22 l23 l24 = some b := by
      intro c
      simp only [corebankref38_Great.j2]
      cases c with
      | true => exact ⟨true, rfl⟩
      | false => rw [e2]; exact ⟨b, by rw [if_neg (by decide)]; exact hb⟩
    split
    · exact hj _
    · exact hj _
theorem great_eq (a0 a1 a2 a3 a4 a5 a6 a7 a8 a9 a10 a11 a12 a13 a14 a15 a16 a17 a18 a19 a20 : Int) (a21 a22 : ByteArray) (l23 : List S54) (l24 : List S50) (k : Nat) : ∃ b, corebankref38_Great.f (k + 700) a0 a1 a2 a3 a4 a5 a6 a7 a8 a9 a10 a11 a12 a13 a14 a15 a16 a17 a18 a19 a20 a21 a22 l23 l24 = some b ∧ (b = false → l23.length ≤ 260) := by
  unfold corebankref38_Great.f
  have hbig : corebankref38_Great.j0 (k + 700) true a0 a1 a2 a3 a4 a5 a6 a7 a8 a9 a10 a11 a12 a13 a14 a15 a16 a17 a18 a19 a20 a21 a22 l23 l24 = some true := by
    rw [show k + 700 = (k + 699) + 1 by omega]; simp only [corebankref38_Great.j0, if_true]
  by_cases c0 : (l23.length : Int) > 260
  · rw [if_pos c0]; exact ⟨true, hbig, fun h => by cases h⟩
  · rw [if_neg c0]
    by_cases c1 : (l24.length : Int) > 70
    · rw [if_pos c1]; exact ⟨true, hbig, fun h => by cases h⟩
    · rw [if_neg c1]
      by_cases c2 : (a21.size : Int) > 100
      · rw [if_pos c2]; exact ⟨true, hbig, fun h => by cases h⟩
      · rw [if_neg c2]
        rw [show k + 700 = (k + 699) + 1 by omega]
        simp only [corebankref38_Great.j0]
        by_cases c3 : (a22.size : Int) > 100
        · rw [decide_eq_true c3, if_pos rfl]; exact ⟨true, rfl, fun h => by cases h⟩
        · rw [decide_eq_false c3, if_neg (by decide)]
          obtain ⟨b, hb⟩ := great_l0 a0 a1 a2 a3 a4 a5 a6 a7 a8 a9 a10 a11 a12 a13 a14 a15 a16 a17 a18 a19 a20 a21 a22 l23 l24 (by omega) l24.length 0 (k + (698 - 2 * l24.length)) (by omega)
          rw [show k + (698 - 2 * l24.length) + 2 * l24.length + 1 = k + 699 by omega] at hb
          exact ⟨b, hb, fun _ => by omega⟩
theorem live_at (k : Nat) : corebanklaw38_Live.f (k + 40) = some true :=
  at_rounds (g := corebanklaw38_Live.f) corebanklaw38_Live.mono (by omega) corebanklaw38_Live.f_true
def sumP : List S54 → Int → Int
  | [], s => s
  | d :: t, s => sumP t (wrap64 (s + d.f2))
theorem sums_l0 (l : List S54) (hl : l.length ≤ 1000000) : ∀ (d i k : Nat) (p q : Int), d + i = l.length → ∃ z, loan_sums.l0 (k + d + 1) p q l l.length i = some (sumP (l.drop i) p, z)
  | 0, i, k, p, q, hd => by
    refine ⟨q, ?_⟩
    simp only [loan_sums.l0]
    rw [if_neg (by omega), List.drop_eq_nil_of_le (by omega)]; rfl
  | d + 1, i, k, p, q, hd => by
    rw [show k + (d + 1) + 1 = (k + d + 1) + 1 by omega]
    obtain ⟨m, hm⟩ : ∃ m, m = k + d + 1 := ⟨_, rfl⟩
    rw [← hm]
    have e2 : wrap64 ((i : Int) + 1) = ((i + 1 : Nat) : Int) := by unfold wrap64; omega
    simp only [loan_sums.l0]
    rw [if_pos (by omega), if_pos (by omega), if_pos (by omega), drop54 l i (by omega), e2, hm]
    exact sums_l0 l hl d (i + 1) k _ _ (by omega)
theorem principal_l0 (a0 a1 a2 a3 a4 a5 a6 a7 a8 a9 a10 a11 a12 a13 a14 a15 a16 a17 a18 a19 a20 : Int) (a21 a22 : ByteArray) (l23 : List S54) (l24 : List S50) (hl : l23.length ≤ 1000000) (hw : ∀ x ∈ l23, x.f1 ≤ 9223372036854775807) : ∀ (d i k : Nat) (p : Int), d + i = l23.length →
    corebankref34_Principal.l0 (k + d + 1) 9223372036854775807 p i a0 a1 a2 a3 a4 a5 a6 a7 a8 a9 a10 a11 a12 a13 a14 a15 a16 a17 a18 a19 a20 a21 a22 l23 l24 = some (sumP (l23.drop i) p)
  | 0, i, k, p, hd => by
    simp only [corebankref34_Principal.l0]
    rw [if_neg (by omega), List.drop_eq_nil_of_le (by omega)]; rfl
  | d + 1, i, k, p, hd => by
    rw [show k + (d + 1) + 1 = (k + d + 1) + 1 by omega]
    obtain ⟨m, hm⟩ : ∃ m, m = k + d + 1 := ⟨_, rfl⟩
    rw [← hm]
    have e2 : wrap64 ((i : Int) + 1) = ((i + 1 : Nat) : Int) := by unfold wrap64; omega
    have hd2 := drop54 l23 i (by omega)
    have hx : (rd_T54 l23 (i : Int)).f1 ≤ 9223372036854775807 := hw _ (List.mem_of_mem_drop (by rw [hd2]; exact List.mem_cons_self))
    simp only [corebankref34_Principal.l0]
    rw [if_pos (by omega), if_pos (by omega), if_pos hx, hd2, e2, hm]
    exact principal_l0 a0 a1 a2 a3 a4 a5 a6 a7 a8 a9 a10 a11 a12 a13 a14 a15 a16 a17 a18 a19 a20 a21 a22 l23 l24 hl hw d (i + 1) k _ (by omega)
theorem pout_eq (a0 a1 a2 a3 a4 a5 a6 a7 a8 a9 a10 a11 a12 a13 a14 a15 a16 a17 a18 a19 a20 : Int) (a21 a22 : ByteArray) (l23 : List S54) (l24 : List S50) (k : Nat) (hl : l23.length ≤ 300) : loan_Outstanding.f (k + 700) a0 a1 a2 a3 a4 a5 a6 a7 a8 a9 a10 a11 a12 a13 a14 a15 a16 a17 a18 a19 a20 a21 a22 l23 l24 = some (wrap64 (sumP l23 0 - a3)) := by
  unfold loan_Outstanding.f loan_sums.f
  obtain ⟨z, h⟩ := sums_l0 l23 (by omega) l23.length 0 (k + (699 - l23.length)) 0 0 (by omega)
  rw [show k + (699 - l23.length) + l23.length + 1 = k + 700 by omega] at h
  rw [show ((0 : Nat) : Int) = 0 from rfl] at h
  rw [h]; rfl
theorem rout_eq (a0 a1 a2 a3 a4 a5 a6 a7 a8 a9 a10 a11 a12 a13 a14 a15 a16 a17 a18 a19 a20 : Int) (a21 a22 : ByteArray) (l23 : List S54) (l24 : List S50) (k : Nat) (hl : l23.length ≤ 300) (hw : ∀ x ∈ l23, x.f1 ≤ 9223372036854775807) : corebankref34_Outstanding.f (k + 700) a0 a1 a2 a3 a4 a5 a6 a7 a8 a9 a10 a11 a12 a13 a14 a15 a16 a17 a18 a19 a20 a21 a22 l23 l24 = some (wrap64 (sumP l23 0 - a3)) := by
  unfold corebankref34_Outstanding.f corebankref34_Principal.f
  have h := principal_l0 a0 a1 a2 a3 a4 a5 a6 a7 a8 a9 a10 a11 a12 a13 a14 a15 a16 a17 a18 a19 a20 a21 a22 l23 l24 (by omega) hw l23.length 0 (k + (699 - l23.length)) 0 (by omega)
  rw [show k + (699 - l23.length) + l23.length + 1 = k + 700 by omega] at h
  rw [show ((0 : Nat) : Int) = 0 from rfl] at h
  rw [h]; rfl
/-- The provision that a loan needs. -/
def expR (x : S27) (day : Int) : Int × Int := pctR (wrap64 (sumP x.f12 0 - x.f3)) (rateR (stR x.f2 (daysS x.f3 x.f4 day x.f12 0 0))) 2
theorem pexp_eq (x : S27) (day : Int) (k : Nat) (hl : x.f12.length ≤ 300) : provision_Expected.f (k + 700) x.f0 x.f1 x.f2 x.f3 x.f4 x.f5 x.f6 x.f7 x.f8 x.f9 x.f10 x.f11.f0 x.f11.f1 x.f11.f2 x.f11.f3 x.f11.f4 x.f11.f5 x.f11.f6 x.f11.f7 x.f11.f8 x.f11.f9 x.f11.f10 x.f11.f11 x.f12 x.f13 day = some (expR x day) := by
  unfold provision_Expected.f
  rw [pout_eq _ _ _ _ _ _ _ _ _ _ _ _ _ _ _ _ _ _ _ _ _ _ _ _ _ _ hl, pstage_eq _ _ _ _ _ _ _ _ _ _ _ _ _ _ _ _ _ _ _ _ _ _ _ _ _ _ _ hl]
  simp only [Option.bind_some, prate_eq]
  rfl
set_option maxRecDepth 100000 in
theorem rgood_eq (a : Int) : corebankref02_Good.f a = some (decide (-1000000000000 ≤ a ∧ a ≤ 1000000000000)) := by
  unfold corebankref02_Good.f
  split
  · congr 1; apply decide_eq_decide.mpr; omega
  · rw [decide_eq_false (by omega)]
/-- An installment in its ranges. -/
def dueOk (d : S54) : Prop := 0 ≤ d.f1 ∧ d.f1 ≤ 73048 ∧ 0 ≤ d.f2 ∧ d.f2 ≤ 1000000000000 ∧ 0 ≤ d.f3 ∧ d.f3 ≤ 1000000000000
theorem within_eq (a b : Int) : corebankref34_within.f a b = some (decide (0 ≤ a ∧ a ≤ b)) := by
  unfold corebankref34_within.f
  split
  · congr 1; apply decide_eq_decide.mpr; omega
  · rw [decide_eq_false (by omega)]
theorem valid4_eq (a : Int) : corebankref04_Valid.f a = some (decide (0 ≤ a ∧ a ≤ 73048)) := by
  unfold corebankref04_Valid.f
  split
  · congr 1; apply decide_eq_decide.mpr; omega
  · rw [decide_eq_false (by omega)]
theorem ranged_l0 (a0 a1 a2 a3 a4 a5 a6 a7 a8 a9 a10 a11 a12 a13 a14 a15 a16 a17 a18 a19 a20 : Int) (a21 a22 : ByteArray) (l23 : List S54) (l24 : List S50) : ∀ (d i k : Nat), d + i = l23.length → l23.length ≤ 1000000 → ∃ b, corebankref34_ranged.l0 (k + 2 * d + 1) i a0 a1 a2 a3 a4 a5 a6 a7 a8 a9 a10 a11 a12 a13 a14 a15 a16 a17 a18 a19 a20 a21 a22 l23 l24 = some b ∧ (b = true → ∀ x ∈ l23.drop i, dueOk x)
  | 0, i, k, hd, hl => by
    refine ⟨true, ?_, fun _ x hx => ?_⟩
    · simp only [corebankref34_ranged.l0]
      rw [if_neg (by omega)]
    · rw [List.drop_eq_nil_of_le (by omega)] at hx
      exact absurd hx List.not_mem_nil
  | d + 1, i, k, hd, hl => by
    rw [show k + 2 * (d + 1) + 1 = (k + 2 * d + 1) + 1 + 1 by omega]
    obtain ⟨b, hb, hh⟩ := ranged_l0 a0 a1 a2 a3 a4 a5 a6 a7 a8 a9 a10 a11 a12 a13 a14 a15 a16 a17 a18 a19 a20 a21 a22 l23 l24 d (i + 1) k (by omega) hl
    obtain ⟨m, hm⟩ : ∃ m, m = k + 2 * d + 1 := ⟨_, rfl⟩
    rw [← hm] at hb ⊢
    have e2 : wrap64 ((i : Int) + 1) = ((i + 1 : Nat) : Int) := by unfold wrap64; omega
    rw [drop54 l23 i (by omega)]
    simp only [corebankref34_ranged.l0, within_eq, valid4_eq, Option.bind_some]
    rw [if_pos (by omega), if_pos (by omega)]
    generalize rd_T54 l23 (i : Int) = x
    have hj : ∀ c : Bool, (c = false → dueOk x) → ∃ b, corebankref34_ranged.j4 (m + 1) i c a0 a1 a2 a3 a4 a5 a6 a7 a8 a9 a10 a11 a12 a13 a14 a15 a16 a17 a18 a19 a20 a21 a22 l23 l24 = some b ∧ (b = true → ∀ y ∈ x :: l23.drop (i + 1), dueOk y) := by
      intro c hc
      simp only [corebankref34_ranged.j4]
      cases c with
      | true => exact ⟨false, rfl, fun h => by cases h⟩
      | false =>
        rw [e2, if_neg (by decide), hb]
        refine ⟨b, rfl, fun h y hy => ?_⟩
        rcases List.mem_cons.1 hy with rfl | hy
        · exact hc rfl
        · exact hh h y hy
    by_cases c1 : 0 ≤ x.f1 ∧ x.f1 ≤ 73048
    · rw [decide_eq_true c1, if_pos rfl]
      by_cases c2 : 0 ≤ x.f2 ∧ x.f2 ≤ 1000000000000
      · rw [decide_eq_true c2, if_pos rfl]
        refine hj _ (fun h => ?_)
        have c3 : 0 ≤ x.f3 ∧ x.f3 ≤ 1000000000000 := by simpa using h
        exact ⟨c1.1, c1.2, c2.1, c2.2, c3.1, c3.2⟩
      · rw [decide_eq_false c2, if_neg (by decide)]
        exact hj true (fun h => by cases h)
    · rw [decide_eq_false c1, if_neg (by decide)]
      exact hj true (fun h => by cases h)
/-- What is known of a loan whose numbers are accepted. -/
def rngOk (a3 a4 : Int) (l23 : List S54) : Prop := 0 ≤ a3 ∧ 0 ≤ a4 ∧ l23.length ≤ 240 ∧ ∀ x ∈ l23, dueOk x
theorem ranged_j2 (a0 a1 a2 a3 a4 a5 a6 a7 a8 a9 a10 a11 a12 a13 a14 a15 a16 a17 a18 a19 a20 : Int) (a21 a22 : ByteArray) (l23 : List S54) (l24 : List S50) (k : Nat) (b : Bool) (h0 : 0 ≤ a3 ∧ 0 ≤ a4) (hb : b = false → l23.length ≤ 240) : ∃ r, corebankref34_ranged.j2 (k + 697 + 1) b a0 a1 a2 a3 a4 a5 a6 a7 a8 a9 a10 a11 a12 a13 a14 a15 a16 a17 a18 a19 a20 a21 a22 l23 l24 = some r ∧ (r = true → rngOk a3 a4 l23) := by
  simp only [corebankref34_ranged.j2]
  cases b with
  | true => exact ⟨false, rfl, fun h => by cases h⟩
  | false =>
    have hl := hb rfl
    rw [if_neg (by decide)]
    obtain ⟨b, hb, hh⟩ := ranged_l0 a0 a1 a2 a3 a4 a5 a6 a7 a8 a9 a10 a11 a12 a13 a14 a15 a16 a17 a18 a19 a20 a21 a22 l23 l24 l23.length 0 (k + (696 - 2 * l23.length)) (by omega) (by omega)
    rw [show k + (696 - 2 * l23.length) + 2 * l23.length + 1 = k + 697 by omega, show ((0 : Nat) : Int) = 0 from rfl] at hb
    exact ⟨b, hb, fun h => ⟨h0.1, h0.2, hl, by simpa using hh h⟩⟩
theorem ranged_j1 (a0 a1 a2 a3 a4 a5 a6 a7 a8 a9 a10 a11 a12 a13 a14 a15 a16 a17 a18 a19 a20 : Int) (a21 a22 : ByteArray) (l23 : List S54) (l24 : List S50) (k : Nat) (b : Bool) (h0 : 0 ≤ a3 ∧ 0 ≤ a4) : ∃ r, corebankref34_ranged.j1 (k + 698 + 1) b a0 a1 a2 a3 a4 a5 a6 a7 a8 a9 a10 a11 a12 a13 a14 a15 a16 a17 a18 a19 a20 a21 a22 l23 l24 = some r ∧ (r = true → rngOk a3 a4 l23) := by
  simp only [corebankref34_ranged.j1]
  cases b with
  | true => exact ⟨false, rfl, fun h => by cases h⟩
  | false =>
    rw [if_neg (by decide)]
    split
    · exact ranged_j2 a0 a1 a2 a3 a4 a5 a6 a7 a8 a9 a10 a11 a12 a13 a14 a15 a16 a17 a18 a19 a20 a21 a22 l23 l24 k true h0 (fun h => by cases h)
    · split
      · exact ranged_j2 a0 a1 a2 a3 a4 a5 a6 a7 a8 a9 a10 a11 a12 a13 a14 a15 a16 a17 a18 a19 a20 a21 a22 l23 l24 k true h0 (fun h => by cases h)
      · exact ranged_j2 a0 a1 a2 a3 a4 a5 a6 a7 a8 a9 a10 a11 a12 a13 a14 a15 a16 a17 a18 a19 a20 a21 a22 l23 l24 k _ h0 (fun h => by omega)
theorem ranged_j0 (a0 a1 a2 a3 a4 a5 a6 a7 a8 a9 a10 a11 a12 a13 a14 a15 a16 a17 a18 a19 a20 : Int) (a21 a22 : ByteArray) (l23 : List S54) (l24 : List S50) (k : Nat) (b : Bool) (h0 : b = false → 0 ≤ a3 ∧ 0 ≤ a4) : ∃ r, corebankref34_ranged.j0 (k + 699 + 1) b a0 a1 a2 a3 a4 a5 a6 a7 a8 a9 a10 a11 a12 a13 a14 a15 a16 a17 a18 a19 a20 a21 a22 l23 l24 = some r ∧ (r = true → rngOk a3 a4 l23) := by
  simp only [corebankref34_ranged.j0]
  cases b with
  | true => exact ⟨false, rfl, fun h => by cases h⟩
  | false =>
    have h1 := fun b => ranged_j1 a0 a1 a2 a3 a4 a5 a6 a7 a8 a9 a10 a11 a12 a13 a14 a15 a16 a17 a18 a19 a20 a21 a22 l23 l24 k b (h0 rfl)
    simp only [within_eq, valid4_eq, Option.bind_some]
    rw [if_neg (by decide)]
    split
    · split
      · split
        · split
          · split
            · split
              · exact h1 _
              · exact h1 _
            · exact h1 _
          · exact h1 _
        · exact h1 _
      · exact h1 _
    · exact h1 _
theorem ranged_eq (a0 a1 a2 a3 a4 a5 a6 a7 a8 a9 a10 a11 a12 a13 a14 a15 a16 a17 a18 a19 a20 : Int) (a21 a22 : ByteArray) (l23 : List S54) (l24 : List S50) (k : Nat) : ∃ r, corebankref34_ranged.f (k + 700) a0 a1 a2 a3 a4 a5 a6 a7 a8 a9 a10 a11 a12 a13 a14 a15 a16 a17 a18 a19 a20 a21 a22 l23 l24 = some r ∧ (r = true → rngOk a3 a4 l23) := by
  have h1 := fun b h => ranged_j0 a0 a1 a2 a3 a4 a5 a6 a7 a8 a9 a10 a11 a12 a13 a14 a15 a16 a17 a18 a19 a20 a21 a22 l23 l24 k b h
  rw [show k + 699 + 1 = k + 700 by omega] at h1
  unfold corebankref34_ranged.f
  split
  · exact h1 true (fun h => by cases h)
  · split
    · exact h1 true (fun h => by cases h)
    · split
      · exact h1 true (fun h => by cases h)
      · split
        · exact h1 true (fun h => by cases h)
        · split
          · exact h1 true (fun h => by cases h)
          · split
            · exact h1 true (fun h => by cases h)
            · exact h1 _ (fun _ => by omega)
theorem prin_eq (a0 a1 a2 a3 a4 a5 a6 a7 a8 a9 a10 a11 a12 a13 a14 a15 a16 a17 a18 a19 a20 : Int) (a21 a22 : ByteArray) (l23 : List S54) (l24 : List S50) (k : Nat) (hl : l23.length ≤ 300) (hw : ∀ x ∈ l23, dueOk x) : corebankref34_Principal.f (k + 700) a0 a1 a2 a3 a4 a5 a6 a7 a8 a9 a10 a11 a12 a13 a14 a15 a16 a17 a18 a19 a20 a21 a22 l23 l24 9223372036854775807 = some (sumP l23 0) := by
  unfold corebankref34_Principal.f
  have h := principal_l0 a0 a1 a2 a3 a4 a5 a6 a7 a8 a9 a10 a11 a12 a13 a14 a15 a16 a17 a18 a19 a20 a21 a22 l23 l24 (by omega) (fun x hx => by have := hw x hx; unfold dueOk at this; omega) l23.length 0 (k + (699 - l23.length)) 0 (by omega)
  rw [show k + (699 - l23.length) + l23.length + 1 = k + 700 by omega] at h
  rw [show ((0 : Nat) : Int) = 0 from rfl] at h
  rw [h]; rfl
theorem interest_l0 (a0 a1 a2 a3 a4 a5 a6 a7 a8 a9 a10 a11 a12 a13 a14 a15 a16 a17 a18 a19 a20 : Int) (a21 a22 : ByteArray) (l23 : List S54) (l24 : List S50) (hl : l23.length ≤ 1000000) (dy : Int) : ∀ (d i k : Nat) (p : Int), d + i = l23.length →
    ∃ r, corebankref34_Interest.l0 (k + d + 1) dy p i a0 a1 a2 a3 a4 a5 a6 a7 a8 a9 a10 a11 a12 a13 a14 a15 a16 a17 a18 a19 a20 a21 a22 l23 l24 = some r
  | 0, i, k, p, hd => by
    simp only [corebankref34_Interest.l0]
    rw [if_neg (by omega)]; exact ⟨_, rfl⟩
  | d + 1, i, k, p, hd => by
    rw [show k + (d + 1) + 1 = (k + d + 1) + 1 by omega]
    have ih := fun p => interest_l0 a0 a1 a2 a3 a4 a5 a6 a7 a8 a9 a10 a11 a12 a13 a14 a15 a16 a17 a18 a19 a20 a21 a22 l23 l24 hl dy d (i + 1) k p (by omega)
    obtain ⟨m, hm⟩ : ∃ m, m = k + d + 1 := ⟨_, rfl⟩
    rw [← hm] at ih ⊢
    have e2 : wrap64 ((i : Int) + 1) = ((i + 1 : Nat) : Int) := by unfold wrap64; omega
    simp only [corebankref34_Interest.l0]
    rw [if_pos (by omega), if_pos (by omega), e2]
    split
    · exact ih _
    · exact ih _
theorem int_eq (a0 a1 a2 a3 a4 a5 a6 a7 a8 a9 a10 a11 a12 a13 a14 a15 a16 a17 a18 a19 a20 : Int) (a21 a22 : ByteArray) (l23 : List S54) (l24 : List S50) (k : Nat) (dy : Int) (hl : l23.length ≤ 300) : ∃ r, corebankref34_Interest.f (k + 700) a0 a1 a2 a3 a4 a5 a6 a7 a8 a9 a10 a11 a12 a13 a14 a15 a16 a17 a18 a19 a20 a21 a22 l23 l24 dy = some r := by
  unfold corebankref34_Interest.f
  obtain ⟨r, h⟩ := interest_l0 a0 a1 a2 a3 a4 a5 a6 a7 a8 a9 a10 a11 a12 a13 a14 a15 a16 a17 a18 a19 a20 a21 a22 l23 l24 (by omega) dy l23.length 0 (k + (699 - l23.length)) 0 (by omega)
  rw [show k + (699 - l23.length) + l23.length + 1 = k + 700 by omega] at h
  rw [show ((0 : Nat) : Int) = 0 from rfl] at h
  exact ⟨r, h⟩
theorem left_eq (a0 a1 a2 a3 a4 a5 a6 a7 a8 a9 a10 a11 a12 a13 a14 a15 a16 a17 a18 a19 a20 : Int) (a21 a22 : ByteArray) (l23 : List S54) (l24 : List S50) (k : Nat) (hl : l23.length ≤ 300) (hw : ∀ x ∈ l23, dueOk x) : ∃ r, corebankref34_Left.f (k + 700) a0 a1 a2 a3 a4 a5 a6 a7 a8 a9 a10 a11 a12 a13 a14 a15 a16 a17 a18 a19 a20 a21 a22 l23 l24 = some r := by
  unfold corebankref34_Left.f
  obtain ⟨q, hq⟩ := int_eq a0 a1 a2 a3 a4 a5 a6 a7 a8 a9 a10 a11 a12 a13 a14 a15 a16 a17 a18 a19 a20 a21 a22 l23 l24 k 9223372036854775807 hl
  rw [prin_eq a0 a1 a2 a3 a4 a5 a6 a7 a8 a9 a10 a11 a12 a13 a14 a15 a16 a17 a18 a19 a20 a21 a22 l23 l24 k hl hw, hq]
  simp only [Option.bind_some]
  repeat' split
  all_goals exact ⟨_, rfl⟩
theorem check_j3 (a0 a1 a2 a3 a4 a5 a6 a7 a8 a9 a10 a11 a12 a13 a14 a15 a16 a17 a18 a19 a20 : Int) (a21 a22 : ByteArray) (l23 : List S54) (l24 : List S50) (k : Nat) (b : Bool) : ∃ r, corebankref34_Check.j3 (k + 1 + 1) b a0 a1 a2 a3 a4 a5 a6 a7 a8 a9 a10 a11 a12 a13 a14 a15 a16 a17 a18 a19 a20 a21 a22 l23 l24 = some r := by
  simp only [corebankref34_Check.j3, corebankref34_Check.j4]
  repeat' split
  all_goals exact ⟨_, rfl⟩
theorem check_j2 (a0 a1 a2 a3 a4 a5 a6 a7 a8 a9 a10 a11 a12 a13 a14 a15 a16 a17 a18 a19 a20 : Int) (a21 a22 : ByteArray) (l23 : List S54) (l24 : List S50) (k : Nat) (b : Bool) (hl : l23.length ≤ 300) (hw : ∀ x ∈ l23, dueOk x) (hb : b = false → a3 ≤ sumP l23 0) : ∃ r, corebankref34_Check.j2 (k + 701) b a0 a1 a2 a3 a4 a5 a6 a7 a8 a9 a10 a11 a12 a13 a14 a15 a16 a17 a18 a19 a20 a21 a22 l23 l24 = some r ∧ (r = 0 → a3 ≤ sumP l23 0) := by
  have h3 := fun b => check_j3 a0 a1 a2 a3 a4 a5 a6 a7 a8 a9 a10 a11 a12 a13 a14 a15 a16 a17 a18 a19 a20 a21 a22 l23 l24 (k + 698) b
  rw [show k + 698 + 1 + 1 = k + 700 by omega] at h3
  have h3' : ∀ b, ∃ r, corebankref34_Check.j3 (k + 700) b a0 a1 a2 a3 a4 a5 a6 a7 a8 a9 a10 a11 a12 a13 a14 a15 a16 a17 a18 a19 a20 a21 a22 l23 l24 = some r ∧ (r = 0 → True) := fun b => by obtain ⟨r, h⟩ := h3 b; exact ⟨r, h, fun _ => trivial⟩
  obtain ⟨q, hq⟩ := left_eq a0 a1 a2 a3 a4 a5 a6 a7 a8 a9 a10 a11 a12 a13 a14 a15 a16 a17 a18 a19 a20 a21 a22 l23 l24 k hl hw
  obtain ⟨m, hm⟩ : ∃ m, m = k + 700 := ⟨_, rfl⟩
  have hp := prin_eq a0 a1 a2 a3 a4 a5 a6 a7 a8 a9 a10 a11 a12 a13 a14 a15 a16 a17 a18 a19 a20 a21 a22 l23 l24 k hl hw
  rw [show k + 701 = (k + 700) + 1 by omega]
  rw [← hm] at h3' hq hp ⊢
  simp only [corebankref34_Check.j2, hq, hp, Option.bind_some]
  cases b with
  | true => exact ⟨25, rfl, fun h => by cases h⟩
  | false =>
    have := hb rfl
    rw [if_neg (by decide)]
    have fin : ∀ b, ∃ r, corebankref34_Check.j3 m b a0 a1 a2 a3 a4 a5 a6 a7 a8 a9 a10 a11 a12 a13 a14 a15 a16 a17 a18 a19 a20 a21 a22 l23 l24 = some r ∧ (r = 0 → a3 ≤ sumP l23 0) := fun b => by obtain ⟨r, h, _⟩ := h3' b; exact ⟨r, h, fun _ => this⟩
    repeat' split
    all_goals exact fin _
/-- The days of installments from a day on, in order. -/
def chain : Int → List S54 → Prop
  | _, [] => True
  | m, d :: t => m ≤ d.f1 ∧ chain d.f1 t
theorem check_l0 (a0 a1 a2 a3 a4 a5 a6 a7 a8 a9 a10 a11 a12 a13 a14 a15 a16 a17 a18 a19 a20 : Int) (a21 a22 : ByteArray) (l23 : List S54) (l24 : List S50) (hl : l23.length ≤ 300) (hw : ∀ x ∈ l23, dueOk x) : ∀ (d i k : Nat), d + i = l23.length →
    ∃ r, corebankref34_Check.l0 (k + 2 * d + 702) i a0 a1 a2 a3 a4 a5 a6 a7 a8 a9 a10 a11 a12 a13 a14 a15 a16 a17 a18 a19 a20 a21 a22 l23 l24 = some r ∧ (r = 0 → a3 ≤ sumP l23 0 ∧ ∀ m : Int, (0 < i → m = (rd_T54 l23 ((i : Int) - 1)).f1) → (i = 0 → m ≤ 0) → chain m (l23.drop i))
  | 0, i, k, hd => by
    rw [show k + 2 * 0 + 702 = (k + 701) + 1 by omega]
    have h2 := fun b h => check_j2 a0 a1 a2 a3 a4 a5 a6 a7 a8 a9 a10 a11 a12 a13 a14 a15 a16 a17 a18 a19 a20 a21 a22 l23 l24 k b hl hw h
    have hp := prin_eq a0 a1 a2 a3 a4 a5 a6 a7 a8 a9 a10 a11 a12 a13 a14 a15 a16 a17 a18 a19 a20 a21 a22 l23 l24 (k + 1) hl hw
    obtain ⟨q, hq⟩ := int_eq a0 a1 a2 a3 a4 a5 a6 a7 a8 a9 a10 a11 a12 a13 a14 a15 a16 a17 a18 a19 a20 a21 a22 l23 l24 (k + 1) 9223372036854775807 hl
    rw [show k + 1 + 700 = k + 701 by omega] at hp hq
    obtain ⟨m, hm⟩ : ∃ m, m = k + 701 := ⟨_, rfl⟩
    rw [← hm] at h2 hp hq ⊢
    simp only [corebankref34_Check.l0, hp, hq, Option.bind_some]
    rw [if_neg (by omega), List.drop_eq_nil_of_le (by omega)]
    have fin : ∀ b, (b = false → a3 ≤ sumP l23 0) → ∃ r, corebankref34_Check.j2 m b a0 a1 a2 a3 a4 a5 a6 a7 a8 a9 a10 a11 a12 a13 a14 a15 a16 a17 a18 a19 a20 a21 a22 l23 l24 = some r ∧ (r = 0 → a3 ≤ sumP l23 0 ∧ ∀ m : Int, (0 < i → m = (rd_T54 l23 ((i : Int) - 1)).f1) → (i = 0 → m ≤ 0) → chain m []) := by
      intro b hb
      obtain ⟨r, h, hr⟩ := h2 b hb
      exact ⟨r, h, fun h => ⟨hr h, fun _ _ _ => trivial⟩⟩
    split
    · exact fin true (fun h => by cases h)
    · split
      · exact fin true (fun h => by cases h)
      · exact fin _ (fun _ => by omega)
  | d + 1, i, k, hd => by
    rw [show k + 2 * (d + 1) + 702 = (k + 2 * d + 702) + 1 + 1 by omega]
    obtain ⟨r, hr, hh⟩ := check_l0 a0 a1 a2 a3 a4 a5 a6 a7 a8 a9 a10 a11 a12 a13 a14 a15 a16 a17 a18 a19 a20 a21 a22 l23 l24 hl hw d (i + 1) k (by omega)
    obtain ⟨m, hm⟩ : ∃ m, m = k + 2 * d + 702 := ⟨_, rfl⟩
    rw [← hm] at hr ⊢
    have e2 : wrap64 ((i : Int) + 1) = ((i + 1 : Nat) : Int) := by unfold wrap64; omega
    have e3 : 0 < i → wrap64 ((i : Int) - 1) = (i : Int) - 1 := by intro h; unfold wrap64; omega
    have hd2 := drop54 l23 i (by omega)
    have hx : dueOk (rd_T54 l23 (i : Int)) := hw _ (List.mem_of_mem_drop (by rw [hd2]; exact List.mem_cons_self))
    rw [hd2]
    have hj : ∀ c : Bool, (c = false → 0 < i → (rd_T54 l23 ((i : Int) - 1)).f1 ≤ (rd_T54 l23 (i : Int)).f1) → ∃ r, corebankref34_Check.j1 (m + 1) i c a0 a1 a2 a3 a4 a5 a6 a7 a8 a9 a10 a11 a12 a13 a14 a15 a16 a17 a18 a19 a20 a21 a22 l23 l24 = some r ∧ (r = 0 → a3 ≤ sumP l23 0 ∧ ∀ m : Int, (0 < i → m = (rd_T54 l23 ((i : Int) - 1)).f1) → (i = 0 → m ≤ 0) → chain m (rd_T54 l23 (i : Int) :: l23.drop (i + 1))) := by
      intro c hc
      simp only [corebankref34_Check.j1]
      cases c with
      | true => exact ⟨10, rfl, fun h => by cases h⟩
      | false =>
        rw [if_neg (by decide), e2, hr]
        refine ⟨r, rfl, fun h => ⟨(hh h).1, fun m' h1 h2 => ⟨?_, (hh h).2 _ (fun _ => ?_) (fun h => by omega)⟩⟩⟩
        · by_cases h0 : 0 < i
          · rw [h1 h0]; exact hc rfl h0
          · have := h2 (by omega)
            unfold dueOk at hx; omega
        · rw [show (((i + 1 : Nat) : Int) - 1) = (i : Int) by omega]
    simp only [corebankref34_Check.l0]
    rw [if_pos (by omega), if_pos (by omega)]
    split
    · split
      · rename_i h0
        have h0' : 0 < i := by omega
        rw [e3 h0', if_pos (by omega), if_pos (by omega)]
        exact hj _ (fun h _ => by have := of_decide_eq_false h; omega)
      · exact hj false (fun _ h => by omega)
    · exact hj true (fun h => by cases h)
theorem check_eq (a0 a1 a2 a3 a4 a5 a6 a7 a8 a9 a10 a11 a12 a13 a14 a15 a16 a17 a18 a19 a20 : Int) (a21 a22 : ByteArray) (l23 : List S54) (l24 : List S50) (k : Nat) : ∃ r, corebankref34_Check.f (k + 2000) a0 a1 a2 a3 a4 a5 a6 a7 a8 a9 a10 a11 a12 a13 a14 a15 a16 a17 a18 a19 a20 a21 a22 l23 l24 = some r ∧ (r = 0 → rngOk a3 a4 l23 ∧ a3 ≤ sumP l23 0 ∧ chain 0 l23) := by
  unfold corebankref34_Check.f
  obtain ⟨b, hb, hh⟩ := ranged_eq a0 a1 a2 a3 a4 a5 a6 a7 a8 a9 a10 a11 a12 a13 a14 a15 a16 a17 a18 a19 a20 a21 a22 l23 l24 (k + 1300)
  rw [show k + 1300 + 700 = k + 2000 by omega] at hb
  rw [hb]
  simp only [Option.bind_some]
  cases b with
  | false => rw [if_neg (by decide)]; exact ⟨1, rfl, fun h => by cases h⟩
  | true =>
    rw [if_pos rfl]
    have h := hh rfl
    have hl : l23.length ≤ 240 := h.2.2.1
    obtain ⟨r, hr, hc⟩ := check_l0 a0 a1 a2 a3 a4 a5 a6 a7 a8 a9 a10 a11 a12 a13 a14 a15 a16 a17 a18 a19 a20 a21 a22 l23 l24 (by omega) h.2.2.2 l23.length 0 (k + (1298 - 2 * l23.length)) (by omega)
    rw [show k + (1298 - 2 * l23.length) + 2 * l23.length + 702 = k + 2000 by omega, show ((0 : Nat) : Int) = 0 from rfl] at hr
    exact ⟨r, hr, fun h0 => ⟨h, (hc h0).1, by simpa using (hc h0).2 0 (fun h => by omega) (fun _ => by omega)⟩⟩
theorem days_zero (pp pi day : Int) : ∀ (l : List S54) (m p i : Int), chain m l → day < m → daysS pp pi day l p i = 0
  | [], _, _, _, _, _ => rfl
  | d :: t, m, p, i, hc, hm => by
    rw [daysS_no _ _ _ _ _ _ _ (fun h => by have := hc.1; omega)]
    exact days_zero pp pi day t _ _ _ hc.2 (by have := hc.1; omega)
theorem days_ge (pp pi day : Int) (h0 : 0 ≤ day) (h1 : day ≤ 73048) : ∀ (l : List S54) (p i : Int), (∀ x ∈ l, dueOk x) → 0 ≤ daysS pp pi day l p i
  | [], _, _, _ => by rw [daysS]; omega
  | d :: t, p, i, hc => by
    have hd := hc d List.mem_cons_self
    unfold dueOk at hd
    by_cases c : d.f1 ≤ day ∧ (pp < wrap64 (p + d.f2) ∨ pi < wrap64 (i + d.f3))
    · rw [daysS_yes _ _ _ _ _ _ _ c]; unfold wrap64; omega
    · rw [daysS_no _ _ _ _ _ _ _ c]
      exact days_ge pp pi day h0 h1 t _ _ (fun x hx => hc x (List.mem_cons_of_mem _ hx))
theorem days_rise (pp pi day later : Int) (h0 : 0 ≤ day) (h1 : day ≤ later) (h2 : later ≤ 73048) : ∀ (l : List S54) (m p i : Int), (∀ x ∈ l, dueOk x) → chain m l → daysS pp pi day l p i ≤ daysS pp pi later l p i
  | [], _, _, _, _, _ => by simp only [daysS]; omega
  | d :: t, m, p, i, hc, hm => by
    have hd := hc d List.mem_cons_self
    have ht : ∀ x ∈ t, dueOk x := fun x hx => hc x (List.mem_cons_of_mem _ hx)
    unfold dueOk at hd
    by_cases c : pp < wrap64 (p + d.f2) ∨ pi < wrap64 (i + d.f3)
    · by_cases c1 : d.f1 ≤ day
      · rw [daysS_yes _ _ _ _ _ _ _ ⟨c1, c⟩, daysS_yes _ _ _ _ _ _ _ ⟨by omega, c⟩]
        unfold wrap64; omega
      · rw [daysS_no _ _ _ _ _ _ _ (fun h => c1 h.1), days_zero pp pi day t d.f1 _ _ hm.2 (by omega)]
        exact days_ge pp pi later (by omega) h2 (d :: t) p i hc
    · rw [daysS_no _ _ _ _ _ _ _ (fun h => c h.2), daysS_no _ _ _ _ _ _ _ (fun h => c h.2)]
      exact days_rise pp pi day later h0 h1 h2 t d.f1 _ _ ht hm.2
theorem rate_rise (s d e : Int) (h : d ≤ e) : rateR (stR s d) ≤ rateR (stR s e) ∧ 0 ≤ rateR (stR s d) ∧ rateR (stR s e) ≤ 450000 := by
  unfold stR rateR
  repeat' split
  all_goals omega
theorem pct_rise (a p q : Int) (h0 : 0 ≤ a) (h1 : a ≤ 1000000000000) (h2 : 0 ≤ p) (h3 : p ≤ q) (h4 : q ≤ 450000) : (pctR a p 2).2 = 0 ∧ (pctR a q 2).2 = 0 ∧ 0 ≤ (pctR a p 2).1 ∧ (pctR a p 2).1 ≤ (pctR a q 2).1 ∧ (pctR a q 2).1 ≤ a ∧ (q = 0 → (pctR a q 2).1 = 0) := by
  have e : ∀ p, 0 ≤ p → p ≤ 450000 → pctR a p 2 = (rq (a * p) 1000000 2, 0) ∧ 0 ≤ rq (a * p) 1000000 2 ∧ rq (a * p) 1000000 2 ≤ a := by
    intro p b0 b1
    have g0 : 0 ≤ a * p := Int.mul_nonneg h0 b0
    have g1 : a * p ≤ a * 1000000 := Int.mul_le_mul_of_nonneg_left (by omega) h0
    have u0 : 0 ≤ rq (a * p) 1000000 2 := rq_nonneg (by decide) g0
    have u1 : rq (a * p) 1000000 2 ≤ a := rq_le_of (by decide) g1
    refine ⟨?_, u0, u1⟩
    unfold pctR divR
    rw [if_pos (by omega), if_neg (by omega), if_pos (by unfold inI; omega)]
  have ep := e p h2 (by omega)
  have eq' := e q (by omega) h4
  rw [ep.1, eq'.1]
  refine ⟨rfl, rfl, ep.2.1, ?_, eq'.2.2, ?_⟩
  · exact rq_mono (by decide) (Int.mul_le_mul_of_nonneg_left h3 h0)
  · rintro rfl
    show rq (a * 0) 1000000 2 = 0
    rw [Int.mul_zero]; exact rq_zero _ _
theorem sumP_range : ∀ (l : List S54) (p : Int), inI p → inI (sumP l p)
  | [], p, h => h
  | d :: t, p, h => by
    rw [sumP]; exact sumP_range t _ (by unfold inI wrap64; omega)
theorem ProvisionRises_pure (x : S27) (a1 a2 : Int) : ∃ k, corebanklaw38_ProvisionRises.f k x.f0 x.f1 x.f2 x.f3 x.f4 x.f5 x.f6 x.f7 x.f8 x.f9 x.f10 x.f11.f0 x.f11.f1 x.f11.f2 x.f11.f3 x.f11.f4 x.f11.f5 x.f11.f6 x.f11.f7 x.f11.f8 x.f11.f9 x.f11.f10 x.f11.f11 x.f12 x.f13 a1 a2 = some true := by
  refine ⟨0 + 2000, ?_⟩
  unfold corebanklaw38_ProvisionRises.f
  obtain ⟨b, hb, hl⟩ := great_eq x.f0 x.f1 x.f2 x.f3 x.f4 x.f5 x.f6 x.f7 x.f8 x.f9 x.f10 x.f11.f0 x.f11.f1 x.f11.f2 x.f11.f3 x.f11.f4 x.f11.f5 x.f11.f6 x.f11.f7 x.f11.f8 x.f11.f9 x.f11.f10 x.f11.f11 x.f12 x.f13 1300
  rw [show 1300 + 700 = 0 + 2000 from rfl] at hb
  obtain ⟨c, hc, hk⟩ := check_eq x.f0 x.f1 x.f2 x.f3 x.f4 x.f5 x.f6 x.f7 x.f8 x.f9 x.f10 x.f11.f0 x.f11.f1 x.f11.f2 x.f11.f3 x.f11.f4 x.f11.f5 x.f11.f6 x.f11.f7 x.f11.f8 x.f11.f9 x.f11.f10 x.f11.f11 x.f12 x.f13 0
  have hbig : corebanklaw38_ProvisionRises.j0 (0 + 2000) a1 a2 true x.f0 x.f1 x.f2 x.f3 x.f4 x.f5 x.f6 x.f7 x.f8 x.f9 x.f10 x.f11.f0 x.f11.f1 x.f11.f2 x.f11.f3 x.f11.f4 x.f11.f5 x.f11.f6 x.f11.f7 x.f11.f8 x.f11.f9 x.f11.f10 x.f11.f11 x.f12 x.f13 = some true := by
    rw [show 0 + 2000 = 1999 + 1 from rfl]
    simp only [corebanklaw38_ProvisionRises.j0]
    rw [live_at 1959]; rfl
  have ho : b = false → corebankref34_Outstanding.f (0 + 2000) x.f0 x.f1 x.f2 x.f3 x.f4 x.f5 x.f6 x.f7 x.f8 x.f9 x.f10 x.f11.f0 x.f11.f1 x.f11.f2 x.f11.f3 x.f11.f4 x.f11.f5 x.f11.f6 x.f11.f7 x.f11.f8 x.f11.f9 x.f11.f10 x.f11.f11 x.f12 x.f13 = some (wrap64 (sumP x.f12 0 - x.f3)) ∨ c ≠ 0 := by
    intro h
    by_cases c0 : c = 0
    · have h1 := (hk c0).1
      have := rout_eq x.f0 x.f1 x.f2 x.f3 x.f4 x.f5 x.f6 x.f7 x.f8 x.f9 x.f10 x.f11.f0 x.f11.f1 x.f11.f2 x.f11.f3 x.f11.f4 x.f11.f5 x.f11.f6 x.f11.f7 x.f11.f8 x.f11.f9 x.f11.f10 x.f11.f11 x.f12 x.f13 1300 (by have := hl h; omega) (fun d hd => by have := h1.2.2.2 d hd; unfold dueOk at this; omega)
      exact Or.inl this
    · exact Or.inr c0
  rw [hb, hc]
  simp only [Option.bind_some]
  cases b with
  | true => rw [if_pos rfl]; exact hbig
  | false =>
    rw [if_neg (by decide)]
    by_cases c0 : c = 0
    · rw [if_pos c0]
      rw [(ho rfl).resolve_right (fun h => h c0)]
      simp only [Option.bind_some, rgood_eq]
      obtain ⟨h1, h2, h3⟩ := hk c0
      by_cases c1 : -1000000000000 ≤ wrap64 (sumP x.f12 0 - x.f3) ∧ wrap64 (sumP x.f12 0 - x.f3) ≤ 1000000000000
      · rw [decide_eq_true c1, if_pos rfl]
        split
        · exact hbig
        · split
          · exact hbig
          · by_cases c2 : a2 > 73048
            · rw [decide_eq_true c2]; exact hbig
            · rw [decide_eq_false c2]
              rename_i g1 g2
              have hr := sumP_range x.f12 0 (by unfold inI; omega)
              unfold rngOk at h1
              unfold inI at hr
              have eo : wrap64 (sumP x.f12 0 - x.f3) = sumP x.f12 0 - x.f3 := by unfold wrap64; omega
              have hd := days_rise x.f3 x.f4 a1 a2 (by omega) (by omega) (by omega) x.f12 0 0 0 h1.2.2.2 h3
              have hq := rate_rise x.f2 _ _ hd
              have hp := pct_rise (wrap64 (sumP x.f12 0 - x.f3)) _ _ (by omega) c1.2 hq.2.1 hq.1 hq.2.2
              have hl' := hl rfl
              have p1 := pexp_eq x a1 1299 (by omega)
              have p2 := pexp_eq x a2 1299 (by omega)
              rw [show 1299 + 700 = 1999 from rfl] at p1 p2
              have o1 := rout_eq x.f0 x.f1 x.f2 x.f3 x.f4 x.f5 x.f6 x.f7 x.f8 x.f9 x.f10 x.f11.f0 x.f11.f1 x.f11.f2 x.f11.f3 x.f11.f4 x.f11.f5 x.f11.f6 x.f11.f7 x.f11.f8 x.f11.f9 x.f11.f10 x.f11.f11 x.f12 x.f13 1299 (by omega) (fun d hd => by have := h1.2.2.2 d hd; unfold dueOk at this; omega)
              rw [show 1299 + 700 = 1999 from rfl] at o1
              rw [show 0 + 2000 = 1999 + 1 from rfl]
              simp only [corebanklaw38_ProvisionRises.j0, p1, p2, o1, Option.bind_some]
              have q1 : (expR x a1).2 = 0 := hp.1
              have q2 : (expR x a2).2 = 0 := hp.2.1
              have q3 : 0 ≤ (expR x a1).1 := hp.2.2.1
              have q4 : (expR x a1).1 ≤ (expR x a2).1 := hp.2.2.2.1
              have q5 : (expR x a2).1 ≤ wrap64 (sumP x.f12 0 - x.f3) := hp.2.2.2.2.1
              have q6 : x.f2 ≠ 1 → (expR x a2).1 = 0 := by
                intro hs
                refine hp.2.2.2.2.2 ?_
                unfold stR rateR
                rw [if_neg hs]; rfl
              rw [if_neg (by decide), if_pos q1, if_pos q2, if_neg (by omega), if_neg (by omega), decide_eq_false (by omega)]
              rw [show 1999 = 1998 + 1 from rfl]
              simp only [corebanklaw38_ProvisionRises.j1]
              rw [live_at 1958]
              simp only [Option.bind_some]
              rw [if_neg (by decide)]
              by_cases hs : x.f2 = 1
              · rw [if_pos hs]
              · rw [if_neg hs, if_pos (q6 hs)]
      · rw [decide_eq_false c1, if_neg (by decide)]; exact hbig
    · rw [if_neg c0]; exact hbig
end Go.Proofs.YtjkjiibhdpcpkaaDoor.PureProvisionRises
end
