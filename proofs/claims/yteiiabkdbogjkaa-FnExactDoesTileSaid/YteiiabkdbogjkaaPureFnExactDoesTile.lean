/- The law FnExactDoesTile: the program's DoesTile returns what the reference's returns, for every shape and lattice; no condition. -/
import Derived.Test.YteiiabkdbogjkaaVTiles
import Derived.Test.YteiiabkdbogjkaaQ2
import Derived.Test.YteiiabkdbogjkaaQ6
import Derived.Test.YteiiabkdbogjkaaQ8
import Derived.Test.YteiiabkdbogjkaaUFnExactDoesTile
import Derived.Test.YteiiabkdbogjkaaQ0
import Derived.Test.YteiiabkdbogjkaaOpn
namespace Go.Proofs.Yteiiabkdbogjkaa.Pure
open Go.RowKit Go.Proofs.Yteiiabkdbogjkaa Go.Proofs.Yteiiabkdbogjkaa.Q Go.Proofs.Yteiiabkdbogjkaa.UFnExactDoesTile Go.Proofs.YteiiabkdbogjkaaW.PrintWords
set_option linter.unusedVariables false
set_option linter.unusedSimpArgs false

theorem doesTile_both (l : List Cell) (w s h : Int) (hl : l.length ≤ 1048576) : Both (fun k => spec_DoesTile.f k l w s h) (fun k => impl_DoesTile.f k l w s h) := by
  unfold spec_DoesTile.f impl_DoesTile.f
  refine Both.bindl (spec_IsShape_eq l (by omega)) (Both.bindr (impl_IsShape_eq l (by omega)) ?_)
  cases hS : Sh l
  · exact Both.pure
  · simp only [if_true, isLattice_spec, isLattice_impl, Option.bind_some]
    cases hL : Lat w s h
    · exact Both.pure
    · have hb := Sh_len hS
      simp only [if_true, tiles_eq l hL (Sh_small hS), Option.bind_some]
      refine Both.bindl (l24Tiles_eq l hL (Sh_small hS) (by omega)) Both.pure
theorem FnExactDoesTile : laws_FnExactDoesTile_Pure := by
  intro l w s h hl _ _ _
  apply Evt.out
  unfold laws_FnExactDoesTile.f
  rw [szCellS_eq l hl.1]
  simp only [Option.bind_some]
  by_cases hb : l.length ≤ 1048576
  · rw [if_pos hb]
    refine Evt.ite_neg (by omega) ?_
    obtain ⟨r, h1, h2⟩ := doesTile_both (toCs l) w s h (by rw [toCs_len]; exact hb)
    refine (toCellS_eq l hb).bind ?_
    simp only [laws_toLattice.f, Option.bind_some]
    refine h1.bind ((toCellS_eq l hb).bind (h2.bind ?_))
    refine Evt.ite_neg (by simp) ?_
    refine Evt.step (fun k => rfl) ?_
    simp only [laws_FnExactDoesTile.j0]
    refine Evt.ite_neg (by simp) ((toCellS_eq l hb).bind ((eqCellS_refl (toCs l) (by rw [toCs_len]; omega)).bind ?_))
    exact Evt.pure
  · rw [if_neg hb]
    exact Evt.ite_pos (by omega) Evt.pure
end Go.Proofs.Yteiiabkdbogjkaa.Pure
