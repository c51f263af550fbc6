/- The law FnExactIsFactoring: the program's IsFactoring returns what the reference's returns, for every string and all numbers; no condition. -/
import Derived.Test.YtcgnnfaemjjljaaDoorVFactorLaws
import Derived.Test.YtcgnnfaemjjljaaDoorQ22
import Derived.Test.YtcgnnfaemjjljaaDoorUFnExactIsFactoring
import Derived.Test.YtcgnnfaemjjljaaDoorQ0
import Derived.Test.YtcgnnfaemjjljaaDoorOpn
namespace Go.Proofs.YtcgnnfaemjjljaaDoor.Pure
open Go.RowKit Go.Proofs.YtcgnnfaemjjljaaDoor Go.Proofs.YtcgnnfaemjjljaaDoor.Q Go.Proofs.YtcgnnfaemjjljaaDoor.UFnExactIsFactoring Go.Proofs.YtcgnnfaemjjljaaDoorW.PrintWords
set_option linter.unusedVariables false
set_option linter.unusedSimpArgs false

theorem FnExactIsFactoring : laws_FnExactIsFactoring_Pure := by
  intro s i a b hs _ _ _
  apply Evt.out
  unfold laws_FnExactIsFactoring.f
  by_cases hb : (s.size : Int) > 1048576
  · exact Evt.ite_pos hb Evt.pure
  · refine Evt.ite_neg hb ((specIsFac_eq s i a b (by omega)).bind ((implIsFac_eq s i a b (by omega)).bind ?_))
    exact Evt.ite_neg (by simp) Evt.pure
end Go.Proofs.YtcgnnfaemjjljaaDoor.Pure
