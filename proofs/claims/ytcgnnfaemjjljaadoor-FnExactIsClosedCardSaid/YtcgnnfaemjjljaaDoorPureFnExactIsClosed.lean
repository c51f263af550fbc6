/- The law FnExactIsClosed: the program's IsClosed returns what the reference's returns, for every string; no condition. -/
import Derived.Test.YtcgnnfaemjjljaaDoorVWords
import Derived.Test.YtcgnnfaemjjljaaDoorQ15
import Derived.Test.YtcgnnfaemjjljaaDoorUFnExactIsClosed
import Derived.Test.YtcgnnfaemjjljaaDoorQ0
import Derived.Test.YtcgnnfaemjjljaaDoorOpn
namespace Go.Proofs.YtcgnnfaemjjljaaDoor.Pure
open Go.RowKit Go.Proofs.YtcgnnfaemjjljaaDoor Go.Proofs.YtcgnnfaemjjljaaDoor.Q Go.Proofs.YtcgnnfaemjjljaaDoor.UFnExactIsClosed Go.Proofs.YtcgnnfaemjjljaaDoorW.PrintWords
set_option linter.unusedVariables false
set_option linter.unusedSimpArgs false

theorem FnExactIsClosed : laws_FnExactIsClosed_Pure := by
  intro s hs
  apply Evt.out
  unfold laws_FnExactIsClosed.f
  by_cases hb : (s.size : Int) > 1048576
  · exact Evt.ite_pos hb Evt.pure
  · refine Evt.ite_neg hb ((specIsClosed_eq s (by omega)).bind ?_)
    rw [implIsClosed_eq]
    simp only [Option.bind_some]
    refine Evt.ite_neg (by simp) Evt.pure
end Go.Proofs.YtcgnnfaemjjljaaDoor.Pure
