/- Of whatever argument reads as data of a type it is said what its cells are: numbers, bools, strings, slices and structs of these, one in the other; no condition. -/
import Derived.Test.YtbphiipcnjelbaaGreatK2
import Derived.Deep.Slices
import Derived.Deep.Strs
import Derived.Carry
import Derived.ChangeShapes
import Derived.WideShapes
import Derived.ChangeSame
namespace Go.Proofs.YtbphiipcnjelbaaGreat
open Go.RowKit Go.ChangeShapes Go.WideShapes Go.Proofs.YtbphiipcnjelbaaGreatW.PrintWords
set_option linter.unusedVariables false

/-- Whatever reads as data of type t has cells of the kind d. -/
def Opn {α : Type} (P : Program) (t : TypeId) (d : Kd α) (g : α → Prop) : Prop :=
  ∀ (H : Type) (enc : TypeId × Value → H) (w : World) (fuel : Nat) (cs : List Value) (x : DataW H × List MemPlace),
    DataW.trod enc P w 0 (fun _ => true) true fuel t cs = some x → ∃ a : α, d.K w a cs ∧ g a

theorem Opn.int {P : Program} {t : TypeId} {k : IntKind} (hu : P.underlying t = some (.int k)) : Opn P t (Kd.int k) (fun a => (Lit.int k a).wf = true) := by
  intro H enc w fuel cs x h
  obtain ⟨n, rfl, _, hw⟩ := DataW.trod_int hu h
  exact ⟨n, rfl, hw⟩
/-- A whole number of 64 bits. -/
def I64 (x : Int) : Prop := -9223372036854775808 ≤ x ∧ x ≤ 9223372036854775807
theorem I64_wf {x : Int} : (Lit.int .i64 x).wf = true ↔ I64 x := by
  show (decide ((-9223372036854775808 : Int) ≤ x) && decide (x ≤ (9223372036854775807 : Int))) = true ↔ _
  unfold I64
  simp
theorem Opn.i64 {P : Program} {t : TypeId} (hu : P.underlying t = some (.int .i64)) : Opn P t (Kd.int .i64) I64 := by
  intro H enc w fuel cs x h
  obtain ⟨n, rfl, _, hw⟩ := DataW.trod_int hu h
  exact ⟨n, rfl, I64_wf.1 hw⟩
theorem Opn.bool {P : Program} {t : TypeId} (hu : P.underlying t = some .bool) : Opn P t Kd.bool (fun _ => True) := by
  intro H enc w fuel cs x h
  obtain ⟨n, rfl, _⟩ := DataW.trod_bool hu h
  exact ⟨n, rfl, trivial⟩
theorem Opn.string {P : Program} {t : TypeId} (hu : P.underlying t = some .string) : Opn P t Kd.string (fun s => s.size ≤ maxLen) := by
  intro H enc w fuel cs x h
  obtain ⟨n, rfl, _, hw⟩ := DataW.trod_string hu h
  exact ⟨n, rfl, hw⟩
theorem Opn.slice {α : Type} [Inhabited α] {P : Program} {t e : TypeId} {d : Kd α} {g : α → Prop} (hu : P.underlying t = some (.slice e)) (hc : P.cellsOf e = d.sz) (ho : Opn P e d g) :
    Opn P t (Kd.slice e d) (fun l => l.length ≤ maxLen ∧ ∀ x ∈ l, g x) := by
  intro H enc w fuel cs x h
  rcases Deep.open_slice hu h with ⟨rfl, _⟩ | ⟨a, len, cap, m, n, D, Pl, rfl, hb, hl, hm, hmm, _, hel⟩
  · refine ⟨[], ⟨none, 0, rfl, Nat.le_refl _, rfl, by simp, fun hp => absurd hp (by simp)⟩, by simp, by simp⟩
  · simp only [if_true] at hmm
    rw [hmm] at hel
    have hE : ∀ i, i < len → ∃ y : α, g y ∧ ∃ c, c.length = d.sz ∧ d.K w y c ∧ ∀ j u, c[j]? = some u → w.cell? (a.add (i * d.sz + j)) = some u := by
      intro i hi
      obtain ⟨cs', hcs, ht⟩ := hel i (by omega)
      obtain ⟨y, hK, hg⟩ := ho H enc w n cs' _ ht
      obtain ⟨_, hln, hcell⟩ := World.cells?_some hcs
      refine ⟨y, hg, cs', by rw [hln, hc], hK, fun j u hj => ?_⟩
      have hjl : j < P.cellsOf e := by rw [← hln]; exact (List.getElem?_eq_some_iff.1 hj).1
      have h2 := hcell j hjl
      rw [Deep.add_add, hc] at h2
      rw [h2]; exact hj
    obtain ⟨f, hf⟩ := Deep.choose_lt hE
    refine ⟨(List.range len).map f, ⟨some a, cap, by simp, by simpa using hl, by simp, by simp only [maxLen] at hm; simp; omega, fun _ => ⟨a, rfl, fun j p hj => ?_⟩⟩, by simp; omega, ?_⟩
    · have hjl : j < len := by
        have := (List.getElem?_eq_some_iff.1 hj).1
        simpa using this
      have : p = f j := by
        rw [List.getElem?_map, List.getElem?_range hjl] at hj
        simpa using hj.symm
      subst this
      exact (hf j hjl).2
    · intro y hy
      obtain ⟨i, hi, rfl⟩ := List.mem_map.1 hy
      exact (hf i (List.mem_range.1 hi)).1

/-- The cells of a struct, a field at a time: field f lies at the offset o. -/
theorem Opn.fields2 {α β : Type} {P : Program} {t : TypeId} {f0 f1 : Field} {d0 : Kd α} {d1 : Kd β} {g0 : α → Prop} {g1 : β → Prop} (hu : P.underlying t = some (.struct #[f0, f1])) (hC : P.cellsOf t = d0.sz + d1.sz)
    (o0 : f0.offset = 0) (o1 : f1.offset = d0.sz) (c0 : P.cellsOf f0.type = d0.sz) (c1 : P.cellsOf f1.type = d1.sz) (h0 : Opn P f0.type d0 g0) (h1 : Opn P f1.type d1 g1) :
    Opn P t (Kd.pair d0 d1) (fun a => g0 a.1 ∧ g1 a.2) := by
  intro H enc w fuel cs x h
  obtain ⟨y0, y1, n, _, hl, k0, k1⟩ := trod_struct2 hu h
  rw [o0, c0] at k0
  rw [o1, c1] at k1
  obtain ⟨a, ha, hg0⟩ := h0 _ _ _ _ _ _ k0
  obtain ⟨b, hb, hg1⟩ := h1 _ _ _ _ _ _ k1
  refine ⟨(a, b), ⟨_, _, ?_, ha, hb⟩, hg0, hg1⟩
  rw [hC] at hl
  rw [List.drop_zero, List.take_of_length_le (i := d1.sz) (by rw [List.length_drop]; omega)]
  exact (List.take_append_drop _ _).symm
theorem Opn.fields1 {α : Type} {P : Program} {t : TypeId} {f0 : Field} {d0 : Kd α} {g0 : α → Prop} (hu : P.underlying t = some (.struct #[f0])) (hC : P.cellsOf t = d0.sz)
    (o0 : f0.offset = 0) (c0 : P.cellsOf f0.type = d0.sz) (h0 : Opn P f0.type d0 g0) : Opn P t d0 g0 := by
  intro H enc w fuel cs x h
  obtain ⟨y0, n, _, hl, k0⟩ := trod_struct1 hu h
  rw [o0, c0, List.drop_zero, List.take_of_length_le (by rw [hl, hC]; exact Nat.le_refl _)] at k0
  exact h0 _ _ _ _ _ _ k0
theorem Opn.fields3 {α β γ : Type} {P : Program} {t : TypeId} {f0 f1 f2 : Field} {d0 : Kd α} {d1 : Kd β} {d2 : Kd γ} {g0 : α → Prop} {g1 : β → Prop} {g2 : γ → Prop} (hu : P.underlying t = some (.struct #[f0, f1, f2])) (hC : P.cellsOf t = d0.sz + (d1.sz + d2.sz))
    (o0 : f0.offset = 0) (o1 : f1.offset = d0.sz) (o2 : f2.offset = d0.sz + d1.sz) (c0 : P.cellsOf f0.type = d0.sz) (c1 : P.cellsOf f1.type = d1.sz) (c2 : P.cellsOf f2.type = d2.sz) (h0 : Opn P f0.type d0 g0) (h1 : Opn P f1.type d1 g1) (h2 : Opn P f2.type d2 g2) :
    Opn P t (Kd.pair d0 (Kd.pair d1 d2)) (fun a => g0 a.1 ∧ g1 a.2.1 ∧ g2 a.2.2) := by
  intro H enc w fuel cs x h
  obtain ⟨y0, y1, y2, n, _, hl, k0, k1, k2⟩ := Deep.trod_struct3 hu h
  rw [o0, c0] at k0
  rw [o1, c1] at k1
  rw [o2, c2] at k2
  obtain ⟨a, ha, hg0⟩ := h0 _ _ _ _ _ _ k0
  obtain ⟨b, hb, hg1⟩ := h1 _ _ _ _ _ _ k1
  obtain ⟨c, hc, hg2⟩ := h2 _ _ _ _ _ _ k2
  refine ⟨(a, b, c), ⟨_, _, ?_, ha, _, _, rfl, hb, hc⟩, hg0, hg1, hg2⟩
  rw [hC] at hl
  rw [List.drop_zero, List.take_of_length_le (i := d2.sz) (by rw [List.length_drop]; omega)]
  have e1 : cs.drop (d0.sz + d1.sz) = (cs.drop d0.sz).drop d1.sz := by rw [List.drop_drop]
  rw [e1, List.take_append_drop d1.sz (cs.drop d0.sz), List.take_append_drop]
theorem Opn.iso {α β : Type} {P : Program} {t : TypeId} {d : Kd α} {g : α → Prop} (h : Opn P t d g) (f : β → α) (u : α → β) (hf : ∀ a, f (u a) = a) : Opn P t (Kd.iso d f) (fun b => g (f b)) := by
  intro H enc w fuel cs x hx
  obtain ⟨a, ha, hg⟩ := h _ _ _ _ _ _ hx
  exact ⟨u a, by show d.K w (f (u a)) cs; rw [hf]; exact ha, by show g (f (u a)); rw [hf]; exact hg⟩

/-- A struct argument. -/
theorem Opn.agg {α : Type} {P : Program} {t : TypeId} {fs : Array Field} {d : Kd α} {g : α → Prop} (h : Opn P t d g) (hu : P.underlying t = some (.struct fs)) {H : Type} {enc : TypeId × Value → H} {w : World} {r : Reach} {base : Nat} {v : Value} {D : DataW H} {ps : List MemPlace}
    (hv : Value.okWide P w r base t v) (ht : DataW.Trod enc P w 0 (fun _ => true) true t v D ps) : ∃ (cs : List Value) (a : α), v = .agg cs.toArray ∧ d.K w a cs ∧ g a := by
  obtain ⟨c, rfl, _⟩ := okWide_struct hu hv
  obtain ⟨fuel, hf⟩ := ht
  obtain ⟨a, ha, hg⟩ := h _ _ _ _ _ _ hf
  refine ⟨c.toList, a, by simp, ?_, hg⟩
  simpa [Value.cells] using ha
/-- A slice argument. -/
theorem Opn.row {α : Type} {P : Program} {t e : TypeId} {d : Kd α} {g : List α → Prop} (h : Opn P t (Kd.slice e d) g) (hu : P.underlying t = some (.slice e)) {H : Type} {enc : TypeId × Value → H} {w : World} {r : Reach} {base : Nat} {v : Value} {D : DataW H} {ps : List MemPlace}
    (hv : Value.okWide P w r base t v) (ht : DataW.Trod enc P w 0 (fun _ => true) true t v D ps) : ∃ (A : Option Addr) (c : Nat) (l : List α), v = .slice A l.length c ∧ l.length ≤ c ∧ d.C w A l.length l ∧ g l := by
  obtain ⟨a, len, cap, rfl⟩ := okWide_slice hu hv
  obtain ⟨fuel, hf⟩ := ht
  obtain ⟨l, ⟨A, c, he, hl, hC⟩, hg⟩ := h _ _ _ _ _ _ hf
  simp [Value.cells] at he
  obtain ⟨rfl, rfl, rfl⟩ := he
  exact ⟨_, _, l, rfl, hl, hC, hg⟩
/-- A string argument takes no more than the reach. -/
theorem Trod_lt {H : Type} {enc : TypeId × Value → H} {P : Program} {w : World} {t : TypeId} {v : Value} {D : DataW H} {ps : List MemPlace} (h : DataW.Trod enc P w 0 (fun _ => true) true t v D ps) : ∀ x ∈ ps, x.block < w.heap.size := by
  obtain ⟨m, hm⟩ := h
  exact DataW.trod_lt m _ _ _ hm
end Go.Proofs.YtbphiipcnjelbaaGreat
