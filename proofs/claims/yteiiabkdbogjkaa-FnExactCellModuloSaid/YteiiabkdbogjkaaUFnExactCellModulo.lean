/- Written by a program of this session (wip/tools/pp.py) out of the translation, with the kit's printer. -/
import Derived.Test.YteiiabkdbogjkaaQ4
import Derived.Test.YteiiabkdbogjkaaOpn
namespace Go.Proofs.Yteiiabkdbogjkaa.UFnExactCellModulo
open Go.RowKit Go.Proofs.Yteiiabkdbogjkaa Go.Proofs.Yteiiabkdbogjkaa.Q Go.Proofs.YteiiabkdbogjkaaW.PrintWords
def wfT32 (x : S32) : Prop := I64 x.f0 ∧ I64 x.f1
def wfT26 (x : S26) : Prop := I64 x.f0 ∧ I64 x.f1 ∧ I64 x.f2
/-- The pure statement of the law. -/
def laws_FnExactCellModulo_Pure : Prop := ∀ (a0_0 : Int) (a0_1 : Int) (a1_0 : Int) (a1_1 : Int) (a1_2 : Int), I64 a0_0 → I64 a0_1 → I64 a1_0 → I64 a1_1 → I64 a1_2 → laws_FnExactCellModulo.f a0_0 a0_1 a1_0 a1_1 a1_2 = some true
end Go.Proofs.Yteiiabkdbogjkaa.UFnExactCellModulo
