/- The law FnExactFindLattice: the program's FindLattice returns what the reference's returns, for every list of cells; no condition. -/
import Derived.Test.YteiiabkdbogjkaaVLatList
import Derived.Test.YteiiabkdbogjkaaQ19
import Derived.Test.YteiiabkdbogjkaaQ20
import Derived.Test.YteiiabkdbogjkaaUFnExactFindLattice
import Derived.Test.YteiiabkdbogjkaaQ0
import Derived.Test.YteiiabkdbogjkaaOpn
namespace Go.Proofs.Yteiiabkdbogjkaa.Pure
open Go.RowKit Go.Proofs.Yteiiabkdbogjkaa Go.Proofs.Yteiiabkdbogjkaa.Q Go.Proofs.Yteiiabkdbogjkaa.UFnExactFindLattice Go.Proofs.YteiiabkdbogjkaaW.PrintWords
set_option linter.unusedVariables false
set_option linter.unusedSimpArgs false

theorem findLattice_both (l : List Cell) (hl : l.length ≤ 1048576) : Both (fun k => spec_FindLattice.f k l) (fun k => impl_FindLattice.f k l) := by
  unfold spec_FindLattice.f impl_FindLattice.f
  refine Both.bindl (spec_IsShape_eq l (by omega)) (Both.bindr (impl_IsShape_eq l (by omega)) ?_)
  cases hS : Sh l
  · exact Both.pure
  · simp only [if_true]
    refine Both.bind2 (lattices_both l hS) (fun x _ => ?_)
    by_cases h0 : (x.length : Int) = 0
    · rw [if_pos h0]
      exact Both.pure
    · rw [if_neg h0, if_pos (by omega)]
      exact Both.pure
theorem FnExactFindLattice : laws_FnExactFindLattice_Pure := by
  intro l hl
  apply Evt.out
  unfold laws_FnExactFindLattice.f
  rw [szCellS_eq l hl.1]
  simp only [Option.bind_some]
  by_cases hb : l.length ≤ 1048576
  · rw [if_pos hb]
    refine Evt.ite_neg (by omega) ?_
    obtain ⟨r, h1, h2⟩ := findLattice_both (toCs l) (by rw [toCs_len]; exact hb)
    refine (toCellS_eq l hb).bind (h1.bind ((toCellS_eq l hb).bind (h2.bind ?_)))
    simp only [laws_eqLattice.f, if_true, Option.bind_some]
    refine Evt.step (fun k => rfl) ?_
    simp only [laws_FnExactFindLattice.j0]
    refine Evt.ite_neg (by simp) ((toCellS_eq l hb).bind ((eqCellS_refl (toCs l) (by rw [toCs_len]; omega)).bind ?_))
    exact Evt.pure
  · rw [if_neg hb]
    exact Evt.ite_pos (by omega) Evt.pure
end Go.Proofs.Yteiiabkdbogjkaa.Pure
