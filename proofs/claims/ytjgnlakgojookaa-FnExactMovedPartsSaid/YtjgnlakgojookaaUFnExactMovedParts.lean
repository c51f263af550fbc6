/- Written by a program of this session (wip/tools/pp.py) out of the translation, with the kit's printer. -/
import Derived.Test.YtjgnlakgojookaaQGlawsFnExactMovedParts
import Derived.Test.YtjgnlakgojookaaOpn
namespace Go.Proofs.Ytjgnlakgojookaa.UFnExactMovedParts
open Go.RowKit Go.Proofs.Ytjgnlakgojookaa Go.Proofs.Ytjgnlakgojookaa.Q Go.Proofs.YtjgnlakgojookaaW.PrintWords
def wfT79 (x : S79) : Prop := I64 x.f0 ∧ I64 x.f1 ∧ I64 x.f2
def wfT24 (x : S24) : Prop := (x.f0.length ≤ maxLen ∧ ∀ xx ∈ x.f0, (xx.length ≤ maxLen ∧ ∀ xxx ∈ xx, wfT79 xxx))
/-- The pure statement of the law. -/
def laws_FnExactMovedParts_Pure : Prop := ∀ (l0_0 : List (List (S79))) (l1 : List (S79)), (l0_0.length ≤ maxLen ∧ ∀ x ∈ l0_0, (x.length ≤ maxLen ∧ ∀ xx ∈ x, wfT79 xx)) → (l1.length ≤ maxLen ∧ ∀ x ∈ l1, wfT79 x) → ∃ k, laws_FnExactMovedParts.f k l0_0 l1 = some true
end Go.Proofs.Ytjgnlakgojookaa.UFnExactMovedParts
