/- Written by a program of this session (wip/tools/pp.py) out of the translation, with the kit's printer. -/
import Derived.Test.YteiiabkdbogjkaaQ2
import Derived.Test.YteiiabkdbogjkaaOpn
namespace Go.Proofs.Yteiiabkdbogjkaa.UFnExactIsLattice
open Go.RowKit Go.Proofs.Yteiiabkdbogjkaa Go.Proofs.Yteiiabkdbogjkaa.Q Go.Proofs.YteiiabkdbogjkaaW.PrintWords
def wfT26 (x : S26) : Prop := I64 x.f0 ∧ I64 x.f1 ∧ I64 x.f2
/-- The pure statement of the law. -/
def laws_FnExactIsLattice_Pure : Prop := ∀ (a0_0 : Int) (a0_1 : Int) (a0_2 : Int), I64 a0_0 → I64 a0_1 → I64 a0_2 → laws_FnExactIsLattice.f a0_0 a0_1 a0_2 = some true
end Go.Proofs.Yteiiabkdbogjkaa.UFnExactIsLattice
