/- The law FnExactCellModulo: the program's CellModulo returns what the reference's returns, for every cell and lattice; no condition. -/
import Derived.Test.YteiiabkdbogjkaaVNum
import Derived.Test.YteiiabkdbogjkaaQ2
import Derived.Test.YteiiabkdbogjkaaQ3
import Derived.Test.YteiiabkdbogjkaaQ4
import Derived.Test.YteiiabkdbogjkaaUFnExactCellModulo
import Derived.Test.YteiiabkdbogjkaaQ0
import Derived.Test.YteiiabkdbogjkaaOpn
namespace Go.Proofs.Yteiiabkdbogjkaa.Pure
open Go.RowKit Go.Proofs.Yteiiabkdbogjkaa Go.Proofs.Yteiiabkdbogjkaa.Q Go.Proofs.Yteiiabkdbogjkaa.UFnExactCellModulo Go.Proofs.YteiiabkdbogjkaaW.PrintWords

theorem FnExactCellModulo : laws_FnExactCellModulo_Pure := by
  intro x y w s h _ _ _ _ _
  have key : ∃ r, spec_CellModulo.f x y w s h = some r ∧ impl_CellModulo.f x y w s h = some r := by
    unfold spec_CellModulo.f impl_CellModulo.f
    rw [l02Cell_eq, isCoordinate_eq, isCoordinate_eq, isLattice_spec, isLattice_impl]
    simp only [Option.bind_some]
    cases cx : Co x
    · exact ⟨_, rfl, rfl⟩
    · cases cy : Co y
      · exact ⟨_, rfl, rfl⟩
      · cases cl : Lat w s h
        · exact ⟨_, rfl, rfl⟩
        · have hx := Co_iff.1 cx
          have hy := Co_iff.1 cy
          simp only [Bool.and_self, if_true]
          rw [l24Cell_eq cl (by omega) (by omega) (by omega) (by omega), modulo_eq cl (by omega) (by omega) (by omega) (by omega)]
          exact ⟨_, rfl, rfl⟩
  obtain ⟨r, h1, h2⟩ := key
  unfold laws_FnExactCellModulo.f laws_toCell.f laws_toLattice.f laws_eqCell.f
  simp [h1, h2]

end Go.Proofs.Yteiiabkdbogjkaa.Pure
