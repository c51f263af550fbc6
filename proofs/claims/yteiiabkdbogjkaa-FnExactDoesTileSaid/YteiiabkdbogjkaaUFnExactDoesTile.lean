/- Written by a program of this session (wip/tools/pp.py) out of the translation, with the kit's printer. -/
import Derived.Test.YteiiabkdbogjkaaQ8
import Derived.Test.YteiiabkdbogjkaaOpn
namespace Go.Proofs.Yteiiabkdbogjkaa.UFnExactDoesTile
open Go.RowKit Go.Proofs.Yteiiabkdbogjkaa Go.Proofs.Yteiiabkdbogjkaa.Q Go.Proofs.YteiiabkdbogjkaaW.PrintWords
def wfT32 (x : S32) : Prop := I64 x.f0 ∧ I64 x.f1
def wfT26 (x : S26) : Prop := I64 x.f0 ∧ I64 x.f1 ∧ I64 x.f2
/-- The pure statement of the law. -/
def laws_FnExactDoesTile_Pure : Prop := ∀ (l0 : List (S32)) (a1_0 : Int) (a1_1 : Int) (a1_2 : Int), (l0.length ≤ maxLen ∧ ∀ x ∈ l0, wfT32 x) → I64 a1_0 → I64 a1_1 → I64 a1_2 → ∃ k, laws_FnExactDoesTile.f k l0 a1_0 a1_1 a1_2 = some true
end Go.Proofs.Yteiiabkdbogjkaa.UFnExactDoesTile
