/- The reference's draws of shapes and lattices: they end, with small lists of small coordinates; for every code of at most 4096 bytes. -/
import Derived.Test.YtcgnnfaemjjljaaDoorVDraws
import Derived.Test.YtcgnnfaemjjljaaDoorQ32
import Derived.Test.YtcgnnfaemjjljaaDoorQ0
import Derived.Test.YtcgnnfaemjjljaaDoorOpn
namespace Go.Proofs.YtcgnnfaemjjljaaDoor.Pure
open Go.RowKit Go.Proofs.YtcgnnfaemjjljaaDoor Go.Proofs.YtcgnnfaemjjljaaDoor.Q Go.Proofs.YtcgnnfaemjjljaaDoorW.PrintWords
set_option linter.unusedVariables false
set_option linter.unusedSimpArgs false

theorem nbStep_mem {l out : List Cell} {d x : Cell} : x ∈ nbStep l out d ↔ x ∈ out ∨ (x = d ∧ d ∉ l) := by
  unfold nbStep
  by_cases h1 : d ∈ l
  · rw [if_pos h1]
    constructor
    · exact Or.inl
    · rintro (h | h)
      · exact h
      · exact absurd h1 h.2
  · rw [if_neg h1]
    by_cases h2 : d ∈ out
    · rw [if_pos h2]
      constructor
      · exact Or.inl
      · rintro (h | h)
        · exact h
        · rw [h.1]; exact h2
    · rw [if_neg h2, ins_mem]
      constructor
      · rintro (h | h)
        · exact Or.inr ⟨h, h1⟩
        · exact Or.inl h
      · rintro (h | h)
        · exact Or.inr h
        · exact Or.inl h.1
theorem nbFold_mem {l : List Cell} {x : Cell} : ∀ (a out : List Cell), x ∈ a.foldl (nbStep l) out ↔ x ∈ out ∨ (x ∈ a ∧ x ∉ l)
  | [], out => by simp
  | d :: r, out => by
    rw [List.foldl_cons, nbFold_mem r, nbStep_mem, List.mem_cons]
    constructor
    · rintro ((h | ⟨h, h2⟩) | ⟨h, h2⟩)
      · exact Or.inl h
      · exact Or.inr ⟨Or.inl h, by rw [h]; exact h2⟩
      · exact Or.inr ⟨Or.inr h, h2⟩
    · rintro (h | ⟨h | h, h2⟩)
      · exact Or.inl (Or.inl h)
      · exact Or.inl (Or.inr ⟨h, by rw [← h]; exact h2⟩)
      · exact Or.inr ⟨h, h2⟩
theorem nbAll_mem {l : List Cell} {x : Cell} : ∀ (a out : List Cell), x ∈ a.foldl (fun out c => (arC c).foldl (nbStep l) out) out ↔ x ∈ out ∨ (x ∉ l ∧ ∃ c ∈ a, x ∈ arC c)
  | [], out => by simp
  | d :: r, out => by
    rw [List.foldl_cons, nbAll_mem r, nbFold_mem]
    simp only [List.mem_cons]
    constructor
    · rintro ((h | ⟨h, h2⟩) | ⟨h, c, hc, h2⟩)
      · exact Or.inl h
      · exact Or.inr ⟨h2, d, Or.inl rfl, h⟩
      · exact Or.inr ⟨h, c, Or.inr hc, h2⟩
    · rintro (h | ⟨h, c, hc | hc, h2⟩)
      · exact Or.inl (Or.inl h)
      · exact Or.inl (Or.inr ⟨by rw [← hc]; exact h2, h⟩)
      · exact Or.inr ⟨h, c, hc, h2⟩
theorem nbC_mem {l : List Cell} {x : Cell} : x ∈ nbC l ↔ x ∉ l ∧ ∃ c ∈ l, x ∈ arC c := by
  unfold nbC
  rw [nbAll_mem]
  simp
theorem min_cell : ∀ l : List Cell, l ≠ [] → ∃ c ∈ l, ∀ d ∈ l, c.f1 ≤ d.f1
  | [], h => absurd rfl h
  | [c], _ => ⟨c, List.mem_cons_self, fun d hd => by rw [List.mem_singleton.1 hd]; exact Int.le_refl _⟩
  | c :: e :: r, _ => by
    obtain ⟨m, hm, h⟩ := min_cell (e :: r) (by simp)
    by_cases hc : c.f1 ≤ m.f1
    · refine ⟨c, List.mem_cons_self, fun d hd => ?_⟩
      rcases List.mem_cons.1 hd with rfl | hd
      · exact Int.le_refl _
      · exact Int.le_trans hc (h d hd)
    · refine ⟨m, List.mem_cons_of_mem _ hm, fun d hd => ?_⟩
      rcases List.mem_cons.1 hd with rfl | hd
      · omega
      · exact h d hd
theorem nbC_ne {l : List Cell} (h : l ≠ []) : nbC l ≠ [] := by
  obtain ⟨c, hc, hm⟩ := min_cell l h
  have : (⟨c.f0, c.f1 - 1⟩ : Cell) ∈ nbC l := nbC_mem.2 ⟨fun hin => by have := hm _ hin; simp only at this; omega, c, hc, by simp [arC]⟩
  intro e
  rw [e] at this
  cases this
theorem nbC_in {l : List Cell} {b : Int} (h : In b l) : In (b + 1) (nbC l) := by
  intro x hx
  obtain ⟨_, c, hc, hx⟩ := nbC_mem.1 hx
  have hb := h c hc
  simp only [arC, List.mem_cons, List.not_mem_nil, or_false] at hx
  rcases hx with rfl | rfl | rfl | rfl <;> simp only <;> omega
theorem nbFold_len (l : List Cell) : ∀ a out : List Cell, (a.foldl (nbStep l) out).length ≤ out.length + a.length
  | [], out => by simp
  | d :: r, out => by
    have h1 := nbFold_len l r (nbStep l out d)
    have h2 := (nbStep_len l out d).2
    rw [List.foldl_cons, List.length_cons]
    omega
theorem nbAll_len (l : List Cell) : ∀ a out : List Cell, (a.foldl (fun out c => (arC c).foldl (nbStep l) out) out).length ≤ out.length + 4 * a.length
  | [], out => by simp
  | d :: r, out => by
    have h1 := nbAll_len l r ((arC d).foldl (nbStep l) out)
    have h2 := nbFold_len l (arC d) out
    have h3 : (arC d).length = 4 := rfl
    rw [List.foldl_cons, List.length_cons]
    omega
theorem nbC_len (l : List Cell) : (nbC l).length ≤ 4 * l.length := by
  have := nbAll_len l l []
  simp at this
  exact this
theorem In.mono {l : List Cell} {a b : Int} (h : In a l) (hab : a ≤ b) : In b l := fun c hc => by have := h c hc; omega
theorem In.ins {l : List Cell} {b : Int} {c : Cell} (h : In b l) (hc : (-b ≤ c.f0 ∧ c.f0 ≤ b) ∧ -b ≤ c.f1 ∧ c.f1 ≤ b) : In b (ins c l) := by
  intro d hd
  rcases ins_mem.1 hd with rfl | hd
  · exact hc
  · exact h d hd
theorem In.mov {l : List Cell} {a b x y : Int} (h : In a l) (hx : -b ≤ x ∧ x ≤ b) (hy : -b ≤ y ∧ y ≤ b) : In (a + b) (movC l x y) := by
  intro d hd
  obtain ⟨c, hc, rfl⟩ := List.mem_map.1 hd
  have := h c hc
  simp only
  omega
theorem normC_len (l : List Cell) : (normC l).length = l.length := movC_len _ _ _
theorem normC_in {l : List Cell} {b : Int} (h0 : l ≠ []) (h : In b l) : In (2 * b) (normC l) := by
  have hb := leastC_in h0 h
  have := In.mov (b := b) h (x := -(leastC l).1) (y := -(leastC l).2) (by omega) (by omega)
  exact this.mono (by omega)
theorem poly_loop {l : List Int} (hb : Bytes l) : ∀ (n : Nat) (a s : Int) (out : List Cell), Src l a s → out ≠ [] → out.length + n ≤ 100 → In (out.length : Int) out →
    ∃ r a' s', Evt (fun k => spec_l02DrawPoly.l0 k out (n : Int) l a s) (r, a', s') ∧ Src l a' s' ∧ r ≠ [] ∧ r.length = out.length + n ∧ In (2 * ((out.length : Int) + n)) r := by
  intro n
  induction n with
  | zero =>
    intro a s out hs h0 hl hi
    refine ⟨normC out, a, s, ?_, hs, ?_, by rw [normC_len]; rfl, (normC_in h0 hi).mono (by omega)⟩
    · refine Evt.step (fun k => rfl) ?_
      simp only [spec_l02DrawPoly.l0]
      refine Evt.ite_neg (by omega) ?_
      exact (l02Normal_eq out h0 (by omega) (hi.mono (by omega))).bind Evt.pure
    · intro e
      have := congrArg List.length e
      rw [normC_len] at this
      exact h0 (List.eq_nil_of_length_eq_zero this)
  | succ n ih =>
    intro a s out hs h0 hl hi
    have hne := nbC_ne h0
    have hnl := nbC_len out
    have hpos : 0 < (nbC out).length := List.length_pos_iff.2 hne
    obtain ⟨x, a1, s1, hx, hs1, x0, x1, _⟩ := next_ok hb hs ((nbC out).length : Int) (by omega)
    have x2 := x1 (by omega)
    obtain ⟨j, rfl⟩ : ∃ j : Nat, x = (j : Int) := ⟨x.toNat, by omega⟩
    have hj : j < (nbC out).length := by omega
    have hd := In.at (nbC_in hi) j hj
    obtain ⟨r, a2, s2, hr, hs2, hr0, hrl, hri⟩ := ih a1 s1 (ins ((nbC out).getD j z42) out) hs1 (by intro e; have := congrArg List.length e; rw [ins_len] at this; simp at this) (by rw [ins_len]; omega)
      (by rw [ins_len]; exact In.ins (hi.mono (by omega)) (by omega))
    rw [ins_len] at hrl hri
    refine ⟨r, a2, s2, ?_, hs2, hr0, by omega, hri.mono (by omega)⟩
    refine Evt.step (fun k => rfl) ?_
    simp only [spec_l02DrawPoly.l0]
    refine Evt.ite_pos (by omega) ?_
    refine (l02Neighbours_eq out (by omega) (hi.mono (by omega))).bind ?_
    simp only [hx, Option.bind_some, rd_getD]
    refine Evt.ite_pos (by omega) (Evt.ite_pos (by omega) ?_)
    refine (l02Insert_eq out ((nbC out).getD j z42) (by omega)).bind ?_
    have ew : wrap64 (((n + 1 : Nat) : Int) - 1) = (n : Int) := by rw [w64 (by omega) (by omega)]; omega
    rw [ew]
    exact hr
theorem poly_ok {l : List Int} (hb : Bytes l) {a s : Int} (hs : Src l a s) (m : Nat) (hm : 1 ≤ m) (hm2 : m ≤ 90) :
    ∃ r a' s', Evt (fun k => spec_l02DrawPoly.f k l a s (m : Int)) (r, a', s') ∧ Src l a' s' ∧ r ≠ [] ∧ r.length ≤ m ∧ In (2 * (m : Int)) r := by
  obtain ⟨x, a1, s1, hx, hs1, x0, x1, _⟩ := next_ok hb hs (m : Int) (by omega)
  have x2 := x1 (by omega)
  obtain ⟨j, rfl⟩ : ∃ j : Nat, x = (j : Int) := ⟨x.toNat, by omega⟩
  obtain ⟨r, a2, s2, hr, hs2, hr0, hrl, hri⟩ := poly_loop hb j a1 s1 [(⟨0, 0⟩ : Cell)] hs1 (by simp) (by simp; omega) (by intro c hc; rw [List.mem_singleton.1 hc]; simp)
  simp at hrl hri
  refine ⟨r, a2, s2, ?_, hs2, hr0, by omega, hri.mono (by omega)⟩
  unfold spec_l02DrawPoly.f
  simp only [hx, Option.bind_some]
  exact hr
end Go.Proofs.YtcgnnfaemjjljaaDoor.Pure
