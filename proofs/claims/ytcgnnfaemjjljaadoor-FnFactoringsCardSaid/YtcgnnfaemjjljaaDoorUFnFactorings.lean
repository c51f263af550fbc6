/- Written by a program of this session (wip/tools/pp.py) out of the translation, with the kit's printer. -/
import Derived.Test.YtcgnnfaemjjljaaDoorQ34
import Derived.Test.YtcgnnfaemjjljaaDoorOpn
namespace Go.Proofs.YtcgnnfaemjjljaaDoor.UFnFactorings
open Go.RowKit Go.Proofs.YtcgnnfaemjjljaaDoor Go.Proofs.YtcgnnfaemjjljaaDoor.Q Go.Proofs.YtcgnnfaemjjljaaDoorW.PrintWords
/-- The pure statement of the law. -/
def laws_FnFactorings_Pure : Prop := ∀ (l0 : List Int), (l0.length ≤ maxLen ∧ ∀ x ∈ l0, (Lit.int .u8 x).wf = true) → l0.length * 1 ≤ 140737488351232 → ∃ k, laws_FnFactorings.f k l0 = some true
end Go.Proofs.YtcgnnfaemjjljaaDoor.UFnFactorings
