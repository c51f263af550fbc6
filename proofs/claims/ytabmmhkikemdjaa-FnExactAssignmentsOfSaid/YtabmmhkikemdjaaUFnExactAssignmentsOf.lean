/- Written by a program of this session (wip/tools/pp.py) out of the translation, with the kit's printer. -/
import Derived.Test.YtabmmhkikemdjaaQ11
import Derived.Test.YtabmmhkikemdjaaOpn
namespace Go.Proofs.Ytabmmhkikemdjaa.UFnExactAssignmentsOf
open Go.RowKit Go.Proofs.Ytabmmhkikemdjaa Go.Proofs.Ytabmmhkikemdjaa.Q Go.Proofs.YtabmmhkikemdjaaW.PrintWords
def wfT24 (x : S24) : Prop := I64 x.f0 ∧ (x.f1.length ≤ maxLen ∧ ∀ xx ∈ x.f1, (xx.length ≤ maxLen ∧ ∀ xxx ∈ xx, I64 xxx))
/-- The pure statement of the law. -/
def laws_FnExactAssignmentsOf_Pure : Prop := ∀ (a0_0 : Int) (l0_1 : List (List Int)), I64 a0_0 → (l0_1.length ≤ maxLen ∧ ∀ x ∈ l0_1, (x.length ≤ maxLen ∧ ∀ xx ∈ x, I64 xx)) → ∃ k, laws_FnExactAssignmentsOf.f k a0_0 l0_1 = some true
end Go.Proofs.Ytabmmhkikemdjaa.UFnExactAssignmentsOf
