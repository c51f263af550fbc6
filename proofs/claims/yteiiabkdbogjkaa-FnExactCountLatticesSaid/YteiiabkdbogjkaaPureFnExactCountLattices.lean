/- The law FnExactCountLattices: the program's CountLattices returns what the reference's returns, for every list of cells; no condition. -/
import Derived.Test.YteiiabkdbogjkaaVLatList
import Derived.Test.YteiiabkdbogjkaaQ16
import Derived.Test.YteiiabkdbogjkaaQ17
import Derived.Test.YteiiabkdbogjkaaQ18
import Derived.Test.YteiiabkdbogjkaaUFnExactCountLattices
import Derived.Test.YteiiabkdbogjkaaQ0
import Derived.Test.YteiiabkdbogjkaaOpn
namespace Go.Proofs.Yteiiabkdbogjkaa.Pure
open Go.RowKit Go.Proofs.Yteiiabkdbogjkaa Go.Proofs.Yteiiabkdbogjkaa.Q Go.Proofs.Yteiiabkdbogjkaa.UFnExactCountLattices Go.Proofs.YteiiabkdbogjkaaW.PrintWords
set_option linter.unusedVariables false
set_option linter.unusedSimpArgs false

theorem countLattices_both (l : List Cell) (hl : l.length ≤ 1048576) : Both (fun k => spec_CountLattices.f k l) (fun k => impl_CountLattices.f k l) := by
  unfold spec_CountLattices.f impl_CountLattices.f
  refine Both.bindl (spec_IsShape_eq l (by omega)) (Both.bindr (impl_IsShape_eq l (by omega)) ?_)
  cases hS : Sh l
  · exact Both.pure
  · simp only [if_true]
    exact Both.bind2 (lattices_both l hS) (fun x _ => Both.pure)
theorem FnExactCountLattices : laws_FnExactCountLattices_Pure := by
  intro l hl
  apply Evt.out
  unfold laws_FnExactCountLattices.f
  rw [szCellS_eq l hl.1]
  simp only [Option.bind_some]
  by_cases hb : l.length ≤ 1048576
  · rw [if_pos hb]
    refine Evt.ite_neg (by omega) ?_
    obtain ⟨r, h1, h2⟩ := countLattices_both (toCs l) (by rw [toCs_len]; exact hb)
    refine (toCellS_eq l hb).bind (h1.bind ((toCellS_eq l hb).bind (h2.bind ?_)))
    refine Evt.ite_pos rfl ?_
    refine Evt.step (fun k => rfl) ?_
    simp only [laws_FnExactCountLattices.j0]
    refine Evt.ite_neg (by simp) ((toCellS_eq l hb).bind ((eqCellS_refl (toCs l) (by rw [toCs_len]; omega)).bind ?_))
    exact Evt.pure
  · rw [if_neg hb]
    exact Evt.ite_pos (by omega) Evt.pure
end Go.Proofs.Yteiiabkdbogjkaa.Pure
