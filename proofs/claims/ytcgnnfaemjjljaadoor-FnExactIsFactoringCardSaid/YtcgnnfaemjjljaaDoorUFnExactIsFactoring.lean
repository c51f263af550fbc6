/- Written by a program of this session (wip/tools/pp.py) out of the translation, with the kit's printer. -/
import Derived.Test.YtcgnnfaemjjljaaDoorQ22
import Derived.Test.YtcgnnfaemjjljaaDoorOpn
namespace Go.Proofs.YtcgnnfaemjjljaaDoor.UFnExactIsFactoring
open Go.RowKit Go.Proofs.YtcgnnfaemjjljaaDoor Go.Proofs.YtcgnnfaemjjljaaDoor.Q Go.Proofs.YtcgnnfaemjjljaaDoorW.PrintWords
/-- The pure statement of the law. -/
def laws_FnExactIsFactoring_Pure : Prop := ∀ (a0 : ByteArray) (a1 : Int) (a2 : Int) (a3 : Int), a0.size ≤ 140737488351232 → I64 a1 → I64 a2 → I64 a3 → ∃ k, laws_FnExactIsFactoring.f k a0 a1 a2 a3 = some true
end Go.Proofs.YtcgnnfaemjjljaaDoor.UFnExactIsFactoring
