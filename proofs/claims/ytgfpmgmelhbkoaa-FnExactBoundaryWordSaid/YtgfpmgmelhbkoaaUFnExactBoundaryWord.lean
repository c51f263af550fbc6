/- Written by a program of this session (wip/tools/pp.py) out of the translation, with the kit's printer. -/
import Derived.Test.YtgfpmgmelhbkoaaQ21
import Derived.Test.YtgfpmgmelhbkoaaOpn
namespace Go.Proofs.Ytgfpmgmelhbkoaa.UFnExactBoundaryWord
open Go.RowKit Go.Proofs.Ytgfpmgmelhbkoaa Go.Proofs.Ytgfpmgmelhbkoaa.Q Go.Proofs.YtgfpmgmelhbkoaaW.PrintWords
def wfT37 (x : S37) : Prop := I64 x.f0 ∧ I64 x.f1
/-- The pure statement of the law. -/
def laws_FnExactBoundaryWord_Pure : Prop := ∀ (l0 : List (S37)), (l0.length ≤ maxLen ∧ ∀ x ∈ l0, wfT37 x) → ∃ k, laws_FnExactBoundaryWord.f k l0 = some true
end Go.Proofs.Ytgfpmgmelhbkoaa.UFnExactBoundaryWord
