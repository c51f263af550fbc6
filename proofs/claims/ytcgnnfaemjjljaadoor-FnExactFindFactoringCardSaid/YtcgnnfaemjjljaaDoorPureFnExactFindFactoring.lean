/- The law FnExactFindFactoring: the program's FindFactoring returns what the reference's returns, for every string; no condition. -/
import Derived.Test.YtcgnnfaemjjljaaDoorVFactorLaws
import Derived.Test.YtcgnnfaemjjljaaDoorQ25
import Derived.Test.YtcgnnfaemjjljaaDoorUFnExactFindFactoring
import Derived.Test.YtcgnnfaemjjljaaDoorQ0
import Derived.Test.YtcgnnfaemjjljaaDoorOpn
namespace Go.Proofs.YtcgnnfaemjjljaaDoor.Pure
open Go.RowKit Go.Proofs.YtcgnnfaemjjljaaDoor Go.Proofs.YtcgnnfaemjjljaaDoor.Q Go.Proofs.YtcgnnfaemjjljaaDoor.UFnExactFindFactoring Go.Proofs.YtcgnnfaemjjljaaDoorW.PrintWords
set_option linter.unusedVariables false
set_option linter.unusedSimpArgs false

theorem FnExactFindFactoring : laws_FnExactFindFactoring_Pure := by
  intro s hs
  apply Evt.out
  unfold laws_FnExactFindFactoring.f
  by_cases hb : (s.size : Int) > 1048576
  · exact Evt.ite_pos hb Evt.pure
  · obtain ⟨r, h1, h2⟩ := findFac_both s (by omega)
    refine Evt.ite_neg hb (h1.bind (h2.bind ?_))
    exact Evt.ite_pos (by simp) (Evt.ite_pos (by simp) (Evt.ite_pos (by simp) (Evt.ite_pos (by simp) Evt.pure)))
end Go.Proofs.YtcgnnfaemjjljaaDoor.Pure
