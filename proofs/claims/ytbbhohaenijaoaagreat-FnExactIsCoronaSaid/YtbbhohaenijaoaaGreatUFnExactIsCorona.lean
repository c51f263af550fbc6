/- Written by a program of this session (wip/tools/pp.py) out of the translation, with the kit's printer. -/
import Derived.Test.YtbbhohaenijaoaaGreatQ18
import Derived.Test.YtbbhohaenijaoaaGreatOpn
namespace Go.Proofs.YtbbhohaenijaoaaGreat.UFnExactIsCorona
open Go.RowKit Go.Proofs.YtbbhohaenijaoaaGreat Go.Proofs.YtbbhohaenijaoaaGreat.Q Go.Proofs.YtbbhohaenijaoaaGreatW.PrintWords
def wfT55 (x : S55) : Prop := I64 x.f0 ∧ I64 x.f1
def wfT24 (x : S24) : Prop := (x.f0.length ≤ maxLen ∧ ∀ xx ∈ x.f0, wfT55 xx) ∧ I64 x.f1 ∧ True
/-- The pure statement of the law. -/
def laws_FnExactIsCorona_Pure : Prop := ∀ (l0_0 : List (S55)) (a0_1 : Int) (a0_2 : Bool) (l1 : List (List (S55))), (l0_0.length ≤ maxLen ∧ ∀ x ∈ l0_0, wfT55 x) → I64 a0_1 → (l1.length ≤ maxLen ∧ ∀ x ∈ l1, (x.length ≤ maxLen ∧ ∀ xx ∈ x, wfT55 xx)) → ∃ k, laws_FnExactIsCorona.f k l0_0 a0_1 a0_2 l1 = some true
end Go.Proofs.YtbbhohaenijaoaaGreat.UFnExactIsCorona
