/- The law FnExactDoesLeave: the program's DoesLeave returns what the reference's returns, for all arguments; no condition. -/
import Derived.Test.YtjgnlakgojookaaVOffs
import Derived.Test.YtjgnlakgojookaaQGimplframeareOffsets
import Derived.Test.YtjgnlakgojookaaQ28
import Derived.Test.YtjgnlakgojookaaQGimplDoesLeave
import Derived.Test.YtjgnlakgojookaaQ29
import Derived.Test.YtjgnlakgojookaaUFnExactDoesLeave
import Derived.Test.YtjgnlakgojookaaQ0
import Derived.Test.YtjgnlakgojookaaOpn
namespace Go.Proofs.Ytjgnlakgojookaa.Pure
open Go.RowKit Go.Proofs.Ytjgnlakgojookaa Go.Proofs.Ytjgnlakgojookaa.Q Go.Proofs.Ytjgnlakgojookaa.UFnExactDoesLeave Go.Proofs.YtjgnlakgojookaaW.PrintWords
set_option linter.unusedVariables false
set_option linter.unusedSimpArgs false

theorem doesLeave_both {l : List (List Cube)} {o : List Cube} (hL : LQ l) (ho : o.length ≤ 1048576) (p d : Int) : Both (fun k => spec_DoesLeave.f k l o p d) (fun k => impl_DoesLeave.f k l o p d) := by
  unfold spec_DoesLeave.f impl_DoesLeave.f
  refine Both.bindl (l27Code_eq hL ho) (Both.bindr (readOffsets_eq hL) ?_)
  have hl := hL.1
  by_cases hc : codeQ l o = 0
  · have hA : asm l = true := by
      unfold codeQ at hc
      cases h : asm l
      · rw [h, if_neg (by simp)] at hc; omega
      · rfl
    have hO : offsC l o = true := by
      unfold codeQ at hc
      rw [hA, if_pos rfl] at hc
      cases h : offsC l o
      · rw [h, if_neg (by simp)] at hc; omega
      · rfl
    have hP := asm_pts hA
    obtain ⟨hol, hos⟩ := offsC_iff hO
    rw [hc]
    refine Both.pl rfl (Both.pr rfl ?_)
    rw [w64 (by omega) (by omega)]
    simp only [in_eq, Option.bind_some]
    by_cases h2 : 0 ≤ p ∧ p ≤ (l.length : Int) - 1
    · refine Both.pl (by simpa using h2) (Both.pr h2 (Both.stepl (fun k => rfl) ?_))
      simp only [spec_DoesLeave.j0]
      by_cases h3 : 0 ≤ d ∧ d ≤ 5
      · obtain ⟨n, rfl⟩ := Int.eq_ofNat_of_zero_le h2.1
        refine Both.nl (by simp; exact h3) (Both.pl (by simp) (Both.pr h3 (Both.pr hol ?_)))
        refine Both.bindl (l27Leaves_eq hP hol hos (part := n) (by omega) h3.1 (by omega)) ?_
        rw [rdQ]
        exact Both.pure
      · refine Both.pl (by simp; omega) (Both.nl (by omega) (Both.nr h3 Both.pure))
    · refine Both.nl (by simpa using h2) (Both.nr h2 (Both.stepl (fun k => rfl) ?_))
      simp only [spec_DoesLeave.j0]
      exact Both.pl (by simp) (Both.nl (by omega) Both.pure)
  · refine Both.nl hc (Both.nr hc (Both.stepl (fun k => rfl) ?_))
    simp only [spec_DoesLeave.j0]
    exact Both.nl (by simp) (Both.nl hc Both.pure)
theorem FnExactDoesLeave : laws_FnExactDoesLeave_Pure := by
  intro l o p d hl ho _ _
  apply Evt.out
  unfold laws_FnExactDoesLeave.f
  obtain ⟨r, h1, h2⟩ := szAssembly_eq l 1048576 (by omega) (by omega) hl.1 (fun c hc => (hl.2 c hc).1)
  refine h1.bind ?_
  by_cases hneg : r < 0
  · exact Evt.ite_pos hneg Evt.pure
  · obtain ⟨hL, hr⟩ := h2 (by omega)
    refine Evt.ite_neg hneg ?_
    rw [szCubeS_eq o r (by omega) (by omega) ho.1]
    simp only [Option.bind_some]
    by_cases h3 : r - (o.length : Int) < 0
    · rw [if_pos h3]
      exact Evt.ite_pos (by omega) Evt.pure
    · rw [if_neg h3]
      refine Evt.ite_neg h3 ?_
      have hlo : o.length ≤ 1048576 := by omega
      have hl2 : (toQs o).length ≤ 1048576 := by rw [toQs_len]; exact hlo
      obtain ⟨b, b1, b2⟩ := doesLeave_both hL.to hl2 p d
      refine (toAssembly_eq l hL).bind ((toCubeS_eq o hlo).bind (b1.bind ((toAssembly_eq l hL).bind ((toCubeS_eq o hlo).bind (b2.bind ?_)))))
      refine Evt.ite_neg (by simp) (Evt.step (fun k => rfl) ?_)
      simp only [laws_FnExactDoesLeave.j0]
      refine Evt.ite_neg (by simp) ((toAssembly_eq l hL).bind ((eqAssembly_refl _ hL.to).bind (Evt.ite_pos rfl ((toCubeS_eq o hlo).bind ((eqCubeS_refl _ hl2).bind (Evt.ite_pos rfl Evt.pure))))))
end Go.Proofs.Ytjgnlakgojookaa.Pure
