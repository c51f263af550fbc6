/- Written by a program of this session (wip/tools/pp.py) out of the translation, with the kit's printer. -/
import Derived.Test.YtncianokahfkpaaDoorQGlawsFnExactFormulaText
import Derived.Test.YtncianokahfkpaaDoorOpn
namespace Go.Proofs.YtncianokahfkpaaDoor.UFnExactFormulaText
open Go.RowKit Go.Proofs.YtncianokahfkpaaDoor Go.Proofs.YtncianokahfkpaaDoor.Q Go.Proofs.YtncianokahfkpaaDoorW.PrintWords
def wfT24 (x : S24) : Prop := I64 x.f0 ∧ (x.f1.length ≤ maxLen ∧ ∀ xx ∈ x.f1, (xx.length ≤ maxLen ∧ ∀ xxx ∈ xx, I64 xxx))
/-- The pure statement of the law. -/
def laws_FnExactFormulaText_Pure : Prop := ∀ (a0_0 : Int) (l0_1 : List (List Int)), I64 a0_0 → (l0_1.length ≤ maxLen ∧ ∀ x ∈ l0_1, (x.length ≤ maxLen ∧ ∀ xx ∈ x, I64 xx)) → ∃ k, laws_FnExactFormulaText.f k a0_0 l0_1 = some true
end Go.Proofs.YtncianokahfkpaaDoor.UFnExactFormulaText
