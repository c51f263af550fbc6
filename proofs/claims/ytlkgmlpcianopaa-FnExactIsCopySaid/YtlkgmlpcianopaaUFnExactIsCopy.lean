/- Written by a program of this session (wip/tools/pp.py) out of the translation, with the kit's printer. -/
import Derived.Test.YtlkgmlpcianopaaQ26
import Derived.Test.YtlkgmlpcianopaaOpn
namespace Go.Proofs.Ytlkgmlpcianopaa.UFnExactIsCopy
open Go.RowKit Go.Proofs.Ytlkgmlpcianopaa Go.Proofs.Ytlkgmlpcianopaa.Q Go.Proofs.YtlkgmlpcianopaaW.PrintWords
def wfT40 (x : S40) : Prop := I64 x.f0 ∧ I64 x.f1
def wfT24 (x : S24) : Prop := (x.f0.length ≤ maxLen ∧ ∀ xx ∈ x.f0, wfT40 xx) ∧ I64 x.f1 ∧ True
/-- The pure statement of the law. -/
def laws_FnExactIsCopy_Pure : Prop := ∀ (l0_0 : List (S40)) (a0_1 : Int) (a0_2 : Bool) (l1 : List (S40)), (l0_0.length ≤ maxLen ∧ ∀ x ∈ l0_0, wfT40 x) → I64 a0_1 → (l1.length ≤ maxLen ∧ ∀ x ∈ l1, wfT40 x) → ∃ k, laws_FnExactIsCopy.f k l0_0 a0_1 a0_2 l1 = some true
end Go.Proofs.Ytlkgmlpcianopaa.UFnExactIsCopy
