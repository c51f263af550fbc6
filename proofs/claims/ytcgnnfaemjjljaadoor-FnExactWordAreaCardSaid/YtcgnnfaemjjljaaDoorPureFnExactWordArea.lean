/- The law FnExactWordArea: the program's WordArea returns what the reference's returns, for every string; no condition. -/
import Derived.Test.YtcgnnfaemjjljaaDoorVTurned
import Derived.Test.YtcgnnfaemjjljaaDoorQ17
import Derived.Test.YtcgnnfaemjjljaaDoorUFnExactWordArea
import Derived.Test.YtcgnnfaemjjljaaDoorQ0
import Derived.Test.YtcgnnfaemjjljaaDoorOpn
namespace Go.Proofs.YtcgnnfaemjjljaaDoor.Pure
open Go.RowKit Go.Proofs.YtcgnnfaemjjljaaDoor Go.Proofs.YtcgnnfaemjjljaaDoor.Q Go.Proofs.YtcgnnfaemjjljaaDoor.UFnExactWordArea Go.Proofs.YtcgnnfaemjjljaaDoorW.PrintWords
set_option linter.unusedVariables false
set_option linter.unusedSimpArgs false

theorem FnExactWordArea : laws_FnExactWordArea_Pure := by
  intro s hs
  apply Evt.out
  unfold laws_FnExactWordArea.f
  by_cases hb : (s.size : Int) > 1048576
  · exact Evt.ite_pos hb Evt.pure
  · obtain ⟨r, h1, h2, -⟩ := wordArea_both s (by omega)
    refine Evt.ite_neg hb (h1.bind ?_)
    rw [h2]
    simp only [Option.bind_some]
    exact Evt.ite_pos (by simp) (Evt.ite_pos (by simp) Evt.pure)
end Go.Proofs.YtcgnnfaemjjljaaDoor.Pure
