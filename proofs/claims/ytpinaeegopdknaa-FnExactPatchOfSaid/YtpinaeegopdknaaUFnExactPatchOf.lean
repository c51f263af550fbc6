/- Written by a program of this session (wip/tools/pp.py) out of the translation, with the kit's printer. -/
import Derived.Test.YtpinaeegopdknaaQ13
import Derived.Test.YtpinaeegopdknaaOpn
namespace Go.Proofs.Ytpinaeegopdknaa.UFnExactPatchOf
open Go.RowKit Go.Proofs.Ytpinaeegopdknaa Go.Proofs.Ytpinaeegopdknaa.Q Go.Proofs.YtpinaeegopdknaaW.PrintWords
def wfT47 (x : S47) : Prop := I64 x.f0 ∧ I64 x.f1
def wfT24 (x : S24) : Prop := I64 x.f0 ∧ I64 x.f1 ∧ I64 x.f2
/-- The pure statement of the law. -/
def laws_FnExactPatchOf_Pure : Prop := ∀ (l0 : List (S47)) (a1_0 : Int) (a1_1 : Int) (a1_2 : Int) (a2 : Int) (a3 : Int), (l0.length ≤ maxLen ∧ ∀ x ∈ l0, wfT47 x) → I64 a1_0 → I64 a1_1 → I64 a1_2 → I64 a2 → I64 a3 → ∃ k, laws_FnExactPatchOf.f k l0 a1_0 a1_1 a1_2 a2 a3 = some true
end Go.Proofs.Ytpinaeegopdknaa.UFnExactPatchOf
