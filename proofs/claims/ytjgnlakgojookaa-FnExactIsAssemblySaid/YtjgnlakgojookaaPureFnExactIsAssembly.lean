/- The law FnExactIsAssembly: the program's IsAssembly returns what the reference's returns, for every assembly; no condition. -/
import Derived.Test.YtjgnlakgojookaaVAsm
import Derived.Test.YtjgnlakgojookaaQ19
import Derived.Test.YtjgnlakgojookaaUFnExactIsAssembly
import Derived.Test.YtjgnlakgojookaaQ0
import Derived.Test.YtjgnlakgojookaaOpn
namespace Go.Proofs.Ytjgnlakgojookaa.Pure
open Go.RowKit Go.Proofs.Ytjgnlakgojookaa Go.Proofs.Ytjgnlakgojookaa.Q Go.Proofs.Ytjgnlakgojookaa.UFnExactIsAssembly Go.Proofs.YtjgnlakgojookaaW.PrintWords
set_option linter.unusedVariables false
set_option linter.unusedSimpArgs false

theorem FnExactIsAssembly : laws_FnExactIsAssembly_Pure := by
  intro l hl
  apply Evt.out
  unfold laws_FnExactIsAssembly.f
  obtain ⟨r, h1, h2⟩ := szAssembly_eq l 1048576 (by omega) (by omega) hl.1 (fun c hc => (hl.2 c hc).1)
  refine h1.bind ?_
  by_cases hneg : r < 0
  · exact Evt.ite_pos hneg Evt.pure
  · obtain ⟨hL, _⟩ := h2 (by omega)
    refine Evt.ite_neg hneg ?_
    refine (toAssembly_eq l hL).bind ((isAssembly_spec _ hL.to).bind ((toAssembly_eq l hL).bind ((isAssembly_impl _ hL.to).bind ?_)))
    refine Evt.ite_neg (by simp) ((toAssembly_eq l hL).bind ((eqAssembly_refl _ hL.to).bind (Evt.ite_pos rfl Evt.pure)))
end Go.Proofs.Ytjgnlakgojookaa.Pure
