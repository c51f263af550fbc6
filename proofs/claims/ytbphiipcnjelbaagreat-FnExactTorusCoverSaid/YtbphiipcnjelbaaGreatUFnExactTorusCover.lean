/- Written by a program of this session (wip/tools/pp.py) out of the translation, with the kit's printer. -/
import Derived.Test.YtbphiipcnjelbaaGreatQGlawsFnExactTorusCover
import Derived.Test.YtbphiipcnjelbaaGreatOpn
namespace Go.Proofs.YtbphiipcnjelbaaGreat.UFnExactTorusCover
open Go.RowKit Go.Proofs.YtbphiipcnjelbaaGreat Go.Proofs.YtbphiipcnjelbaaGreat.Q Go.Proofs.YtbphiipcnjelbaaGreatW.PrintWords
def wfT70 (x : S70) : Prop := I64 x.f0 ∧ I64 x.f1
def wfT24 (x : S24) : Prop := (x.f0.length ≤ maxLen ∧ ∀ xx ∈ x.f0, wfT70 xx) ∧ I64 x.f1 ∧ True
/-- The pure statement of the law. -/
def laws_FnExactTorusCover_Pure : Prop := ∀ (l0_0 : List (S70)) (a0_1 : Int) (a0_2 : Bool) (a1 : Int) (a2 : Int), (l0_0.length ≤ maxLen ∧ ∀ x ∈ l0_0, wfT70 x) → I64 a0_1 → I64 a1 → I64 a2 → ∃ k, laws_FnExactTorusCover.f k l0_0 a0_1 a0_2 a1 a2 = some true
end Go.Proofs.YtbphiipcnjelbaaGreat.UFnExactTorusCover
