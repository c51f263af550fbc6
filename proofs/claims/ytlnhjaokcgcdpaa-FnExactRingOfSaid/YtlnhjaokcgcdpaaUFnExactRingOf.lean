/- Written by a program of this session (wip/tools/pp.py) out of the translation, with the kit's printer. -/
import Derived.Test.YtlnhjaokcgcdpaaQ14
import Derived.Test.YtlnhjaokcgcdpaaOpn
namespace Go.Proofs.Ytlnhjaokcgcdpaa.UFnExactRingOf
open Go.RowKit Go.Proofs.Ytlnhjaokcgcdpaa Go.Proofs.Ytlnhjaokcgcdpaa.Q Go.Proofs.YtlnhjaokcgcdpaaW.PrintWords
def wfT36 (x : S36) : Prop := I64 x.f0 ∧ I64 x.f1
/-- The pure statement of the law. -/
def laws_FnExactRingOf_Pure : Prop := ∀ (l0 : List (S36)), (l0.length ≤ maxLen ∧ ∀ x ∈ l0, wfT36 x) → ∃ k, laws_FnExactRingOf.f k l0 = some true
end Go.Proofs.Ytlnhjaokcgcdpaa.UFnExactRingOf
