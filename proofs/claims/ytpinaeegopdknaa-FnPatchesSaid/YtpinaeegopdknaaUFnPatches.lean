/- Written by a program of this session (wip/tools/pp.py) out of the translation, with the kit's printer. -/
import Derived.Test.YtpinaeegopdknaaQ25
import Derived.Test.YtpinaeegopdknaaOpn
namespace Go.Proofs.Ytpinaeegopdknaa.UFnPatches
open Go.RowKit Go.Proofs.Ytpinaeegopdknaa Go.Proofs.Ytpinaeegopdknaa.Q Go.Proofs.YtpinaeegopdknaaW.PrintWords
/-- The pure statement of the law. -/
def laws_FnPatches_Pure : Prop := ∀ (l0 : List Int), (l0.length ≤ maxLen ∧ ∀ x ∈ l0, (Lit.int .u8 x).wf = true) → l0.length * 1 ≤ 140737488351232 → ∃ k, laws_FnPatches.f k l0 = some true
end Go.Proofs.Ytpinaeegopdknaa.UFnPatches
