/- Written by a program of this session (wip/tools/pp.py) out of the translation, with the kit's printer. -/
import Derived.Test.YtcgnnfaemjjljaaDoorQ7
import Derived.Test.YtcgnnfaemjjljaaDoorOpn
namespace Go.Proofs.YtcgnnfaemjjljaaDoor.UFnExactTurnWord
open Go.RowKit Go.Proofs.YtcgnnfaemjjljaaDoor Go.Proofs.YtcgnnfaemjjljaaDoor.Q Go.Proofs.YtcgnnfaemjjljaaDoorW.PrintWords
/-- The pure statement of the law. -/
def laws_FnExactTurnWord_Pure : Prop := ∀ (a0 : ByteArray) (a1 : Int), a0.size ≤ 140737488351232 → I64 a1 → ∃ k, laws_FnExactTurnWord.f k a0 a1 = some true
end Go.Proofs.YtcgnnfaemjjljaaDoor.UFnExactTurnWord
