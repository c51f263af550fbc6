/- Written by a program of this session (wip/tools/pp.py) out of the translation, with the kit's printer. -/
import Derived.Test.YteiiabkdbogjkaaQ20
import Derived.Test.YteiiabkdbogjkaaOpn
namespace Go.Proofs.Yteiiabkdbogjkaa.UFnExactFindLattice
open Go.RowKit Go.Proofs.Yteiiabkdbogjkaa Go.Proofs.Yteiiabkdbogjkaa.Q Go.Proofs.YteiiabkdbogjkaaW.PrintWords
def wfT32 (x : S32) : Prop := I64 x.f0 ∧ I64 x.f1
/-- The pure statement of the law. -/
def laws_FnExactFindLattice_Pure : Prop := ∀ (l0 : List (S32)), (l0.length ≤ maxLen ∧ ∀ x ∈ l0, wfT32 x) → ∃ k, laws_FnExactFindLattice.f k l0 = some true
end Go.Proofs.Yteiiabkdbogjkaa.UFnExactFindLattice
