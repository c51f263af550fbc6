/- The law FnExactAreClear: the program's AreClear returns what the reference's returns, for every assembly and all offsets; no condition. -/
import Derived.Test.YtjgnlakgojookaaVOffs
import Derived.Test.YtjgnlakgojookaaQ22
import Derived.Test.YtjgnlakgojookaaQGimplAreClear
import Derived.Test.YtjgnlakgojookaaQ23
import Derived.Test.YtjgnlakgojookaaUFnExactAreClear
import Derived.Test.YtjgnlakgojookaaQ0
import Derived.Test.YtjgnlakgojookaaOpn
namespace Go.Proofs.Ytjgnlakgojookaa.Pure
open Go.RowKit Go.Proofs.Ytjgnlakgojookaa Go.Proofs.Ytjgnlakgojookaa.Q Go.Proofs.Ytjgnlakgojookaa.UFnExactAreClear Go.Proofs.YtjgnlakgojookaaW.PrintWords
set_option linter.unusedVariables false
set_option linter.unusedSimpArgs false

theorem areClear_both {l : List (List Cube)} {o : List Cube} (hL : LQ l) (ho : o.length ≤ 1048576) : Both (fun k => spec_AreClear.f k l o) (fun k => impl_AreClear.f k l o) := by
  unfold spec_AreClear.f impl_AreClear.f
  refine Both.bindl (isAssembly_spec l hL) (Both.bindr (isAssembly_impl l hL) ?_)
  cases hA : asm l
  · exact Both.nl (by simp) (Both.nr (by simp) Both.pure)
  · have hP := asm_pts hA
    have := hP.lo
    refine Both.pl rfl (Both.pr rfl (Both.pr ⟨hP.hi, by omega⟩ (Both.bindl (l27Clear_eq hP ho) Both.pure)))
theorem FnExactAreClear : laws_FnExactAreClear_Pure := by
  intro l o hl ho
  apply Evt.out
  unfold laws_FnExactAreClear.f
  obtain ⟨r, h1, h2⟩ := szAssembly_eq l 1048576 (by omega) (by omega) hl.1 (fun c hc => (hl.2 c hc).1)
  refine h1.bind ?_
  by_cases hneg : r < 0
  · exact Evt.ite_pos hneg Evt.pure
  · obtain ⟨hL, hr⟩ := h2 (by omega)
    refine Evt.ite_neg hneg ?_
    rw [szCubeS_eq o r (by omega) (by omega) ho.1]
    simp only [Option.bind_some]
    by_cases h3 : r - (o.length : Int) < 0
    · rw [if_pos h3]
      exact Evt.ite_pos (by omega) Evt.pure
    · rw [if_neg h3]
      refine Evt.ite_neg h3 ?_
      have hlo : o.length ≤ 1048576 := by omega
      have hl2 : (toQs o).length ≤ 1048576 := by rw [toQs_len]; exact hlo
      obtain ⟨b, b1, b2⟩ := areClear_both hL.to hl2
      refine (toAssembly_eq l hL).bind ((toCubeS_eq o hlo).bind (b1.bind ((toAssembly_eq l hL).bind ((toCubeS_eq o hlo).bind (b2.bind ?_)))))
      refine Evt.ite_neg (by simp) ((toAssembly_eq l hL).bind ((eqAssembly_refl _ hL.to).bind (Evt.ite_pos rfl ((toCubeS_eq o hlo).bind ((eqCubeS_refl _ hl2).bind (Evt.ite_pos rfl Evt.pure))))))
end Go.Proofs.Ytjgnlakgojookaa.Pure
